import Derived.Test.YtpommejalaechaaDoorW2
import Derived.Test.YtpommejalaechaaDoorJ8
import Derived.Test.YtpommejalaechaaDoorXD
namespace Go.Sym
set_option linter.unusedVariables false
set_option linter.unusedSimpArgs false
open Go.Proofs
set_option maxRecDepth 100000
set_option maxHeartbeats 4000000
structure CHx where
 x : FX
 e : Int
 t : Int
def okR (x : FX) (e t : Int) : Bool := decide (0 <= e /\ e < x.g.es.length /\ ((1 <= t /\ t <= 1048576) ∨ t = 4611686018427387904))
def chF (x : FX) (e t : Int) : FX := ⟨x.g, x.ts.set e.toNat t, x.src⟩
def chT (x : FX) (e t : Int) : List Int := if okR x e t = true then x.ts.set e.toNat t else x.ts
def chN (x : FX) (e t : Int) : Int := if okR x e t = true then cntAt x.d (chF x e t).d x.g.n else 0
def chE (x : FX) (e t : Int) : Int := if okR x e t = true then 0 else 1
theorem ch_no {x : FX} {e t : Int} (h : ¬ (0 <= e /\ e < x.g.es.length /\ ((1 <= t /\ t <= 1048576) ∨ t = 4611686018427387904))) : chT x e t = x.ts /\ chN x e t = 0 /\ chE x e t = 1 := by
 have q : ¬ okR x e t = true := fun w => h (of_decide_eq_true w)
 exact ⟨if_neg q, if_neg q, if_neg q⟩
theorem ch_yes {x : FX} {e t : Int} (h : 0 <= e /\ e < x.g.es.length /\ ((1 <= t /\ t <= 1048576) ∨ t = 4611686018427387904)) : chT x e t = (chF x e t).ts /\ chN x e t = cntAt x.d (chF x e t).d x.g.n /\ chE x e t = 0 := by
 have q : okR x e t = true := decide_eq_true h
 exact ⟨if_pos q, if_pos q, if_pos q⟩
def chC : CT where
 X := CHx
 pre := fun x => FXok x.x /\ x.x.ts.length = x.x.g.es.length
 args := fun x => [rmA x.x 100000, .i .i64 x.e, .i .i64 x.t]
 g0 := fun x => rmH x.x 100000
 res := fun x => .tup [.agg [.i .i64 x.x.g.n, .sl 100000 0 x.x.g.es.length, .sl 1 0 x.x.g.es.length, .sl 100002 0 x.x.src.length], .i .i64 (chN x.x x.e x.t), .i .i64 (chE x.x x.e x.t)]
 g1 := fun x => [(1, .rows .bor k1 x.x.g.es.length (encL encI (chT x.x x.e x.t)))]
def encC37 (x : FX) (e t : Int) : Bool := decide (¬ (0 <= e /\ e < x.g.es.length /\ ((1 <= t /\ t <= 1048576) ∨ t = 4611686018427387904)))
def chI (x : CHx) (id : Nat) : Option Inv := match id with
 | 100037 => some (cutB 37 (encC37 x.x x.e x.t))
 | 0 => some { X := Nat, ok := fun k => k <= x.x.g.es.length, fr := fun k => [(44, .i .i64 k), (10, .sl 62 0 k)], hp := fun k => [(62, .rows .own k1 k (encL encI ((chF x.x x.e x.t).ts.take k)))], me := fun k => x.x.g.es.length - k }
 | 2 => some { X := Nat, ok := fun k => k <= x.x.g.n, fr := fun k => [(63, .i .i64 k), (13, .i .i64 (cntAt x.x.d (chF x.x x.e x.t).d k))], hp := fun _ => [], me := fun k => x.x.g.n - k }
 | _ => none
def cfgW5 : Cfg := ⟨T, [], [(13, .one eallC)], noInv, 16, {}⟩
theorem conW5 : ConOk Tryd.prog cfgW5 := ConL.ok (.cons (ConL.one eall_good) .nil)
theorem set_here {ts : List Int} {e t : Int} {k : Nat} (hk : (k : Int) < ts.length) (h : (k : Int) = e) : RowsEq k1 (k + 1) (appRows k (encL encI ((ts.set e.toNat t).take k)) 0 (litRows [[.i t]])) (encL encI ((ts.set e.toNat t).take (k + 1))) := by
 subst h
 have e1 : (ts.set k t).getD k default = t := by rw [List.getD_eq_getElem?_getD, List.getElem?_set_self (by omega)]; rfl
 rw [Int.toNat_natCast, take_succ_getD (d := default) (by rw [List.length_set]; omega), e1]
 exact rowsEq_push (by rw [List.length_take, List.length_set]; omega) (by rw [List.length_take, List.length_set]; omega) ⟨rfl, trivial⟩
theorem set_there {ts : List Int} {e t : Int} {k : Nat} (hk : (k : Int) < ts.length) (h0 : 0 <= e) (h : ¬ (k : Int) = e) : RowsEq k1 (k + 1) (appRows k (encL encI ((ts.set e.toNat t).take k)) 0 (litRows [[.i (ts.getD k default)]])) (encL encI ((ts.set e.toNat t).take (k + 1))) := by
 have e1 : (ts.set e.toNat t).getD k default = ts.getD k default := by rw [List.getD_eq_getElem?_getD, List.getElem?_set_ne (by omega), List.getD_eq_getElem?_getD]
 rw [take_succ_getD (d := default) (by rw [List.length_set]; omega), e1]
 exact rowsEq_push (by rw [List.length_take, List.length_set]; omega) (by rw [List.length_take, List.length_set]; omega) ⟨rfl, trivial⟩
theorem set_all {ts : List Int} {e t : Int} {n k : Nat} (h : ts.length = n) (hk : k <= n) (h2 : ¬ (k : Int) < n) : (ts.set e.toNat t).take k = ts.set e.toNat t := List.take_of_length_le (by rw [List.length_set]; omega)
theorem chF_ok {x : FX} (h : FXok x) (e t : Int) : FXok (chF x e t) := ⟨h.g, h.n, h.e⟩
theorem chF_len (x : FX) (e t : Int) : (chF x e t).ts.length = x.ts.length := List.length_set
set_option maxRecDepth 100000 in
theorem ch_keeps : Keeps cfgW5 Tryd.f41 chC chI := Eq.mp (show ((∀ x1 : CHx, ((FXok x1.x /\ x1.x.ts.length = x1.x.g.es.length)-> ((((decide (x1.e < (0 : Int)) = false)-> (((decide ((x1.x.g.es.length : Int) <= x1.e) = false)-> (((decide (x1.t < (1 : Int)) = false)-> (((decide (1048576 < x1.t) = true)-> (∃ x7 : Unit, (True/\((decide (x1.t ≠ (4611686018427387904 : Int)) = decide ¬((0 : Int) <= x1.e /\ x1.e < (x1.x.g.es.length : Int)/\((1 : Int) <= x1.t /\ x1.t <= (1048576 : Int) ∨ x1.t = (4611686018427387904 : Int))))/\True))))/\((decide (1048576 < x1.t) = false)-> (∃ x9 : Unit, (True/\((false = decide ¬((0 : Int) <= x1.e /\ x1.e < (x1.x.g.es.length : Int)/\((1 : Int) <= x1.t /\ x1.t <= (1048576 : Int) ∨ x1.t = (4611686018427387904 : Int))))/\True))))))/\((decide (x1.t < (1 : Int)) = true)-> (∃ x11 : Unit, (True/\((decide (x1.t ≠ (4611686018427387904 : Int)) = decide ¬((0 : Int) <= x1.e /\ x1.e < (x1.x.g.es.length : Int)/\((1 : Int) <= x1.t /\ x1.t <= (1048576 : Int) ∨ x1.t = (4611686018427387904 : Int))))/\True))))))/\((decide ((x1.x.g.es.length : Int) <= x1.e) = true)-> (∃ x13 : Unit, (True/\((true = decide ¬((0 : Int) <= x1.e /\ x1.e < (x1.x.g.es.length : Int)/\((1 : Int) <= x1.t /\ x1.t <= (1048576 : Int) ∨ x1.t = (4611686018427387904 : Int))))/\True))))))/\((decide (x1.e < (0 : Int)) = true)-> (∃ x15 : Unit, (True/\((true = decide ¬((0 : Int) <= x1.e /\ x1.e < (x1.x.g.es.length : Int)/\((1 : Int) <= x1.t /\ x1.t <= (1048576 : Int) ∨ x1.t = (4611686018427387904 : Int))))/\True)))))/\(∀ x16 : Unit, (True -> ((((decide ¬((0 : Int) <= x1.e /\ x1.e < (x1.x.g.es.length : Int)/\((1 : Int) <= x1.t /\ x1.t <= (1048576 : Int) ∨ x1.t = (4611686018427387904 : Int)))) = true)-> (((((x1.x.g.n : Int) = (x1.x.g.n : Int))/\((0=0 /\ x1.x.g.es.length = x1.x.g.es.length)/\((0=0 /\ x1.x.ts.length = x1.x.g.es.length)/\((0=0 /\ x1.x.src.length = x1.x.src.length)/\True))))/\(((0 : Int) = chN x1.x x1.e x1.t)/\(((1 : Int) = chE x1.x x1.e x1.t)/\True)))/\(((RLe x1.x.g.es.length x1.x.ts.length)/\(RI x1.x.g.es.length x1.x.ts (chT x1.x x1.e x1.t)))/\True)))/\(((decide ¬((0 : Int) <= x1.e /\ x1.e < (x1.x.g.es.length : Int)/\((1 : Int) <= x1.t /\ x1.t <= (1048576 : Int) ∨ x1.t = (4611686018427387904 : Int)))) = false)-> (∃ x20 : FX, ((FXok x20)/\(((((x1.x.g.n : Int) = (x20.g.n : Int))/\((0=0 /\ x1.x.g.es.length = x20.g.es.length)/\((0=0 /\ x1.x.ts.length = x20.ts.length)/\((0=0 /\ x1.x.src.length = x20.src.length)/\True))))/\True)/\((((RLe x20.g.es.length x1.x.g.es.length)/\(RowsEq [.int .i64, .int .i64, .int .i64] x20.g.es.length (encL encE x1.x.g.es) (encL encE x20.g.es)))/\(((RLe x20.ts.length x1.x.ts.length)/\(RI x20.ts.length x1.x.ts x20.ts))/\(((RLe x20.src.length x1.x.src.length)/\(RI x20.src.length x1.x.src x20.src))/\True)))/\(∃ x21 : Nat, (((x21 <= x1.x.g.es.length)/\(((0 = (x21 : Int))/\((True/\(0=0/\(x21 = (0 : Nat))))/\(((x1.x.ts.length : Int) = (x1.x.ts.length : Int))/\((0=0 /\ x1.x.ts.length = x1.x.ts.length)/\((0=0 /\ x20.g.n = x20.g.n)/\(((0 : Int) = 0)/\(((0 : Int) = 0)/\((0=0 /\ 0=0)/\((0=0 /\ 0=0)/\((((x1.x.g.n : Int) = (x1.x.g.n : Int))/\((0=0 /\ x1.x.g.es.length = x1.x.g.es.length)/\((0=0 /\ x1.x.ts.length = x1.x.ts.length)/\((0=0 /\ x1.x.src.length = x1.x.src.length)/\True))))/\(x1.e = x1.e/\(x1.t = x1.t/\True))))))))))))/\((x21 = (0 : Nat))/\(((RLe x20.g.n x20.g.n)/\(RI x20.g.n (FX.d x20) (FX.d x20)))/\((((0 : Int) = 0)/\(True/\(True/\(True/\True))))/\((((x1.x.g.n : Int) = (x1.x.g.n : Int))/\((0=0 /\ x1.x.g.es.length = x1.x.g.es.length)/\((0=0 /\ x1.x.ts.length = x1.x.ts.length)/\((0=0 /\ x1.x.src.length = x1.x.src.length)/\True))))/\(((RLe x1.x.g.es.length x1.x.g.es.length)/\(RowsEq [.int .i64, .int .i64, .int .i64] x1.x.g.es.length (encL encE x1.x.g.es) (encL encE x1.x.g.es)))/\(((RLe x1.x.ts.length x1.x.ts.length)/\(RI x1.x.ts.length x1.x.ts x1.x.ts))/\(((RLe x1.x.src.length x1.x.src.length)/\(RI x1.x.src.length x1.x.src x1.x.src))/\True)))))))))/\(∀ x22 : Nat, ((x22 <= x1.x.g.es.length)-> (((decide ((x22 : Int) < (x1.x.ts.length : Int)) = true)-> ((((0 : Int) <= (x22 : Int))/\((x22 : Int) < (x1.x.ts.length : Int)))/\((0 + Int.toNat (x22 : Int) < x1.x.ts.length)/\(((decide ((x22 : Int) = x1.e) = true)-> (((True/\True)/\True)/\((0=0/\((x22 <= x22)/\(((1 : Nat) <= (1 : Nat))/\(x22 + (1 : Nat) <= (1073741824 : Nat)))))/\((((-9223372036854775808 : Int) <= (x22 : Int) + 1)/\((x22 : Int) + 1 <= (9223372036854775807 : Int)))/\(∃ x26 : Nat, ((x1.x.g.es.length - x26 < x1.x.g.es.length - x22)/\((x26 <= x1.x.g.es.length)/\((((x22 : Int) + 1 = (x26 : Int))/\((0=0/\(x22 + (1 : Nat) = x26))/\(((x1.x.ts.length : Int) = (x1.x.ts.length : Int))/\((0=0 /\ x1.x.ts.length = x1.x.ts.length)/\((0=0 /\ x20.g.n = x20.g.n)/\(((0 : Int) = 0)/\(((0 : Int) = 0)/\((0=0 /\ 0=0)/\((0=0 /\ 0=0)/\((((x1.x.g.n : Int) = (x1.x.g.n : Int))/\((0=0 /\ x1.x.g.es.length = x1.x.g.es.length)/\((0=0 /\ x1.x.ts.length = x1.x.ts.length)/\((0=0 /\ x1.x.src.length = x1.x.src.length)/\True))))/\(x1.e = x1.e/\(x1.t = x1.t/\True))))))))))))/\(((RLe x26 (x22 + (1 : Nat)))/\(RowsEq [.int .i64] x26 (appRows x22 (encL encI (List.take x22 (chF x1.x x1.e x1.t).ts)) 0 (litRows ((D.i x1.t :: @List.nil D) :: @List.nil (List D)))) (encL encI (List.take x26 (chF x1.x x1.e x1.t).ts))))/\(((RLe x20.g.n x20.g.n)/\(RI x20.g.n (FX.d x20) (FX.d x20)))/\((((0 : Int) = 0)/\(True/\(True/\(True/\True))))/\((((x1.x.g.n : Int) = (x1.x.g.n : Int))/\((0=0 /\ x1.x.g.es.length = x1.x.g.es.length)/\((0=0 /\ x1.x.ts.length = x1.x.ts.length)/\((0=0 /\ x1.x.src.length = x1.x.src.length)/\True))))/\(((RLe x1.x.g.es.length x1.x.g.es.length)/\(RowsEq [.int .i64, .int .i64, .int .i64] x1.x.g.es.length (encL encE x1.x.g.es) (encL encE x1.x.g.es)))/\(((RLe x1.x.ts.length x1.x.ts.length)/\(RI x1.x.ts.length x1.x.ts x1.x.ts))/\(((RLe x1.x.src.length x1.x.src.length)/\(RI x1.x.src.length x1.x.src x1.x.src))/\True)))))))))))))))/\((decide ((x22 : Int) = x1.e) = false)-> (((True/\True)/\True)/\((0=0/\((x22 <= x22)/\(((1 : Nat) <= (1 : Nat))/\(x22 + (1 : Nat) <= (1073741824 : Nat)))))/\((((-9223372036854775808 : Int) <= (x22 : Int) + 1)/\((x22 : Int) + 1 <= (9223372036854775807 : Int)))/\(∃ x28 : Nat, ((x1.x.g.es.length - x28 < x1.x.g.es.length - x22)/\((x28 <= x1.x.g.es.length)/\((((x22 : Int) + 1 = (x28 : Int))/\((0=0/\(x22 + (1 : Nat) = x28))/\(((x1.x.ts.length : Int) = (x1.x.ts.length : Int))/\((0=0 /\ x1.x.ts.length = x1.x.ts.length)/\((0=0 /\ x20.g.n = x20.g.n)/\(((0 : Int) = 0)/\(((0 : Int) = 0)/\((0=0 /\ 0=0)/\((0=0 /\ 0=0)/\((((x1.x.g.n : Int) = (x1.x.g.n : Int))/\((0=0 /\ x1.x.g.es.length = x1.x.g.es.length)/\((0=0 /\ x1.x.ts.length = x1.x.ts.length)/\((0=0 /\ x1.x.src.length = x1.x.src.length)/\True))))/\(x1.e = x1.e/\(x1.t = x1.t/\True))))))))))))/\(((RLe x28 (x22 + (1 : Nat)))/\(RowsEq [.int .i64] x28 (appRows x22 (encL encI (List.take x22 (chF x1.x x1.e x1.t).ts)) 0 (litRows ((D.i (x1.x.ts.getD (0 + Int.toNat (x22 : Int)) default) :: @List.nil D) :: @List.nil (List D)))) (encL encI (List.take x28 (chF x1.x x1.e x1.t).ts))))/\(((RLe x20.g.n x20.g.n)/\(RI x20.g.n (FX.d x20) (FX.d x20)))/\((((0 : Int) = 0)/\(True/\(True/\(True/\True))))/\((((x1.x.g.n : Int) = (x1.x.g.n : Int))/\((0=0 /\ x1.x.g.es.length = x1.x.g.es.length)/\((0=0 /\ x1.x.ts.length = x1.x.ts.length)/\((0=0 /\ x1.x.src.length = x1.x.src.length)/\True))))/\(((RLe x1.x.g.es.length x1.x.g.es.length)/\(RowsEq [.int .i64, .int .i64, .int .i64] x1.x.g.es.length (encL encE x1.x.g.es) (encL encE x1.x.g.es)))/\(((RLe x1.x.ts.length x1.x.ts.length)/\(RI x1.x.ts.length x1.x.ts x1.x.ts))/\(((RLe x1.x.src.length x1.x.src.length)/\(RI x1.x.src.length x1.x.src x1.x.src))/\True)))))))))))))))))))/\((decide ((x22 : Int) < (x1.x.ts.length : Int)) = false)-> (∃ x30 : FX, ((FXok x30)/\(((((x1.x.g.n : Int) = (x30.g.n : Int))/\((0=0 /\ x1.x.g.es.length = x30.g.es.length)/\((0=0 /\ x22 = x30.ts.length)/\((0=0 /\ x1.x.src.length = x30.src.length)/\True))))/\True)/\((((RLe x30.g.es.length x1.x.g.es.length)/\(RowsEq [.int .i64, .int .i64, .int .i64] x30.g.es.length (encL encE x1.x.g.es) (encL encE x30.g.es)))/\(((RLe x30.ts.length x22)/\(RI x30.ts.length (List.take x22 (chF x1.x x1.e x1.t).ts) x30.ts))/\(((RLe x30.src.length x1.x.src.length)/\(RI x30.src.length x1.x.src x30.src))/\True)))/\(∃ x31 : Nat, (((x31 <= x1.x.g.n)/\(((0 = (x31 : Int))/\(((0 : Int) = cntAt (FX.d x1.x) (FX.d (chF x1.x x1.e x1.t)) x31)/\(((x30.g.n : Int) = (x30.g.n : Int))/\((0=0 /\ x30.g.n = x30.g.n)/\((0=0 /\ x22 = x22)/\((0=0 /\ x20.g.n = x20.g.n)/\(((0 : Int) = 0)/\(((0 : Int) = 0)/\((0=0 /\ 0=0)/\((0=0 /\ 0=0)/\((((x1.x.g.n : Int) = (x1.x.g.n : Int))/\((0=0 /\ x1.x.g.es.length = x1.x.g.es.length)/\((0=0 /\ x1.x.ts.length = x1.x.ts.length)/\((0=0 /\ x1.x.src.length = x1.x.src.length)/\True))))/\(x1.e = x1.e/\(x1.t = x1.t/\True)))))))))))))/\(((RLe x30.g.n x30.g.n)/\(RI x30.g.n (FX.d x30) (FX.d x30)))/\((((x1.x.g.n : Int) = (x1.x.g.n : Int))/\((0=0 /\ x1.x.g.es.length = x1.x.g.es.length)/\((0=0 /\ x22 = x22)/\((0=0 /\ x1.x.src.length = x1.x.src.length)/\True))))/\((RLe x22 x22/\(RI x22 (List.take x22 (chF x1.x x1.e x1.t).ts) (List.take x22 (chF x1.x x1.e x1.t).ts)))/\(((RLe x20.g.n x20.g.n)/\(RI x20.g.n (FX.d x20) (FX.d x20)))/\((((0 : Int) = 0)/\(True/\(True/\(True/\True))))/\(((RLe x1.x.g.es.length x1.x.g.es.length)/\(RowsEq [.int .i64, .int .i64, .int .i64] x1.x.g.es.length (encL encE x1.x.g.es) (encL encE x1.x.g.es)))/\(((RLe x1.x.ts.length x1.x.ts.length)/\(RI x1.x.ts.length x1.x.ts x1.x.ts))/\(((RLe x1.x.src.length x1.x.src.length)/\(RI x1.x.src.length x1.x.src x1.x.src))/\True))))))))))/\(∀ x32 : Nat, ((x32 <= x1.x.g.n)-> (((decide ((x32 : Int) < (x30.g.n : Int)) = true)-> ((((0 : Int) <= (x32 : Int))/\((x32 : Int) < (x30.g.n : Int)))/\((0 + Int.toNat (x32 : Int) < x30.g.n)/\((((0 : Int) <= (x32 : Int))/\((x32 : Int) < (x20.g.n : Int)))/\((0 + Int.toNat (x32 : Int) < x20.g.n)/\(((decide ((FX.d x30).getD (0 + Int.toNat (x32 : Int)) default ≠ (FX.d x20).getD (0 + Int.toNat (x32 : Int)) default) = true)-> ((((-9223372036854775808 : Int) <= cntAt (FX.d x1.x) (FX.d (chF x1.x x1.e x1.t)) x32 + 1)/\(cntAt (FX.d x1.x) (FX.d (chF x1.x x1.e x1.t)) x32 + 1 <= (9223372036854775807 : Int)))/\((((-9223372036854775808 : Int) <= (x32 : Int) + 1)/\((x32 : Int) + 1 <= (9223372036854775807 : Int)))/\(∃ x36 : Nat, ((x1.x.g.n - x36 < x1.x.g.n - x32)/\((x36 <= x1.x.g.n)/\((((x32 : Int) + 1 = (x36 : Int))/\((cntAt (FX.d x1.x) (FX.d (chF x1.x x1.e x1.t)) x32 + 1 = cntAt (FX.d x1.x) (FX.d (chF x1.x x1.e x1.t)) x36)/\(((x30.g.n : Int) = (x30.g.n : Int))/\((0=0 /\ x30.g.n = x30.g.n)/\((0=0 /\ x22 = x22)/\((0=0 /\ x20.g.n = x20.g.n)/\(((0 : Int) = 0)/\(((0 : Int) = 0)/\((0=0 /\ 0=0)/\((0=0 /\ 0=0)/\((((x1.x.g.n : Int) = (x1.x.g.n : Int))/\((0=0 /\ x1.x.g.es.length = x1.x.g.es.length)/\((0=0 /\ x1.x.ts.length = x1.x.ts.length)/\((0=0 /\ x1.x.src.length = x1.x.src.length)/\True))))/\(x1.e = x1.e/\(x1.t = x1.t/\True)))))))))))))/\(((RLe x30.g.n x30.g.n)/\(RI x30.g.n (FX.d x30) (FX.d x30)))/\((((x1.x.g.n : Int) = (x1.x.g.n : Int))/\((0=0 /\ x1.x.g.es.length = x1.x.g.es.length)/\((0=0 /\ x22 = x22)/\((0=0 /\ x1.x.src.length = x1.x.src.length)/\True))))/\((RLe x22 x22/\(RI x22 (List.take x22 (chF x1.x x1.e x1.t).ts) (List.take x22 (chF x1.x x1.e x1.t).ts)))/\(((RLe x20.g.n x20.g.n)/\(RI x20.g.n (FX.d x20) (FX.d x20)))/\((((0 : Int) = 0)/\(True/\(True/\(True/\True))))/\(((RLe x1.x.g.es.length x1.x.g.es.length)/\(RowsEq [.int .i64, .int .i64, .int .i64] x1.x.g.es.length (encL encE x1.x.g.es) (encL encE x1.x.g.es)))/\(((RLe x1.x.ts.length x1.x.ts.length)/\(RI x1.x.ts.length x1.x.ts x1.x.ts))/\(((RLe x1.x.src.length x1.x.src.length)/\(RI x1.x.src.length x1.x.src x1.x.src))/\True)))))))))))))))/\((decide ((FX.d x30).getD (0 + Int.toNat (x32 : Int)) default ≠ (FX.d x20).getD (0 + Int.toNat (x32 : Int)) default) = false)-> ((((-9223372036854775808 : Int) <= (x32 : Int) + 1)/\((x32 : Int) + 1 <= (9223372036854775807 : Int)))/\(∃ x38 : Nat, ((x1.x.g.n - x38 < x1.x.g.n - x32)/\((x38 <= x1.x.g.n)/\((((x32 : Int) + 1 = (x38 : Int))/\((cntAt (FX.d x1.x) (FX.d (chF x1.x x1.e x1.t)) x32 = cntAt (FX.d x1.x) (FX.d (chF x1.x x1.e x1.t)) x38)/\(((x30.g.n : Int) = (x30.g.n : Int))/\((0=0 /\ x30.g.n = x30.g.n)/\((0=0 /\ x22 = x22)/\((0=0 /\ x20.g.n = x20.g.n)/\(((0 : Int) = 0)/\(((0 : Int) = 0)/\((0=0 /\ 0=0)/\((0=0 /\ 0=0)/\((((x1.x.g.n : Int) = (x1.x.g.n : Int))/\((0=0 /\ x1.x.g.es.length = x1.x.g.es.length)/\((0=0 /\ x1.x.ts.length = x1.x.ts.length)/\((0=0 /\ x1.x.src.length = x1.x.src.length)/\True))))/\(x1.e = x1.e/\(x1.t = x1.t/\True)))))))))))))/\(((RLe x30.g.n x30.g.n)/\(RI x30.g.n (FX.d x30) (FX.d x30)))/\((((x1.x.g.n : Int) = (x1.x.g.n : Int))/\((0=0 /\ x1.x.g.es.length = x1.x.g.es.length)/\((0=0 /\ x22 = x22)/\((0=0 /\ x1.x.src.length = x1.x.src.length)/\True))))/\((RLe x22 x22/\(RI x22 (List.take x22 (chF x1.x x1.e x1.t).ts) (List.take x22 (chF x1.x x1.e x1.t).ts)))/\(((RLe x20.g.n x20.g.n)/\(RI x20.g.n (FX.d x20) (FX.d x20)))/\((((0 : Int) = 0)/\(True/\(True/\(True/\True))))/\(((RLe x1.x.g.es.length x1.x.g.es.length)/\(RowsEq [.int .i64, .int .i64, .int .i64] x1.x.g.es.length (encL encE x1.x.g.es) (encL encE x1.x.g.es)))/\(((RLe x1.x.ts.length x1.x.ts.length)/\(RI x1.x.ts.length x1.x.ts x1.x.ts))/\(((RLe x1.x.src.length x1.x.src.length)/\(RI x1.x.src.length x1.x.src x1.x.src))/\True))))))))))))))))))))/\((decide ((x32 : Int) < (x30.g.n : Int)) = false)-> (((((x1.x.g.n : Int) = (x1.x.g.n : Int))/\((0=0 /\ x1.x.g.es.length = x1.x.g.es.length)/\((0=0 /\ x22 = x1.x.g.es.length)/\((0=0 /\ x1.x.src.length = x1.x.src.length)/\True))))/\((cntAt (FX.d x1.x) (FX.d (chF x1.x x1.e x1.t)) x32 = chN x1.x x1.e x1.t)/\(((0 : Int) = chE x1.x x1.e x1.t)/\True)))/\(((RLe x1.x.g.es.length x22)/\(RI x1.x.g.es.length (List.take x22 (chF x1.x x1.e x1.t).ts) (chT x1.x x1.e x1.t)))/\True)))))))))))))))))))))))))))))) = (Keeps cfgW5 Tryd.f41 chC chI) by kernel_rfl) (fun x1 => fun h2 => ⟨⟨fun g3 => have h3 := dF g3; ⟨fun g4 => have h4 := dF g4; ⟨fun g5 => have h5 := dF g5; ⟨fun g6 => have h6 := dT g6; ⟨(default),
 trivial,
(by grind),trivial⟩,
fun g8 => have h8 := dF g8; ⟨(default),trivial,
(by grind),trivial⟩⟩,
fun g10 => have h10 := dT g10; ⟨(default),trivial,
(by grind),trivial⟩⟩,
fun g12 => have h12 := dT g12; ⟨(default),trivial,
(by grind),trivial⟩⟩,
fun g14 => have h14 := dT g14; ⟨(default),trivial,
(by grind),trivial⟩⟩,
fun x16 => fun h17 => ⟨fun g18 => have h18 := dT g18; ⟨⟨⟨rfl,
⟨rfl,rfl⟩,
⟨rfl,
(by omega)⟩,
⟨rfl,rfl⟩,trivial⟩,
((ch_no (x := x1.x) (e := x1.e) (t := x1.t) ‹_›).2.1.symm),
((ch_no (x := x1.x) (e := x1.e) (t := x1.t) ‹_›).2.2.symm),trivial⟩,
⟨⟨(by omega)⟩,
(by rw [(ch_no (x := x1.x) (e := x1.e) (t := x1.t) ‹_›).1]; exact rr)⟩,trivial⟩,
fun g19 => have h19 := dF g19; ⟨(CHx.x x1),
(by grind),
⟨⟨rfl,
⟨rfl,rfl⟩,
⟨rfl,rfl⟩,
⟨rfl,rfl⟩,trivial⟩,trivial⟩,
⟨⟨rl,rr⟩,
⟨rl,rr⟩,
⟨rl,rr⟩,trivial⟩,
((0 : Nat)),
⟨(by omega),
⟨(by omega),
⟨trivial,rfl,rfl⟩,rfl,
⟨rfl,rfl⟩,
⟨rfl,rfl⟩,rfl,rfl,
⟨rfl,rfl⟩,
⟨rfl,rfl⟩,
⟨rfl,
⟨rfl,rfl⟩,
⟨rfl,rfl⟩,
⟨rfl,rfl⟩,trivial⟩,rfl,rfl,trivial⟩,rfl,
⟨rl,rr⟩,
⟨rfl,trivial,trivial,trivial,trivial⟩,
⟨rfl,
⟨rfl,rfl⟩,
⟨rfl,rfl⟩,
⟨rfl,rfl⟩,trivial⟩,
⟨rl,rr⟩,
⟨rl,rr⟩,
⟨rl,rr⟩,trivial⟩,
fun x22 => fun h23 => ⟨fun g24 => have h24 := dT g24; ⟨⟨(by omega),
(by omega)⟩,
(by omega),
fun g25 => have h25 := dT g25; ⟨⟨⟨trivial,trivial⟩,trivial⟩,
⟨rfl,
(by omega),
(by omega),
(by have := h2.2; have := h2.1.g.m; have := h2.1.n; omega)⟩,
⟨(by omega),
(by have := h2.2; have := h2.1.g.m; have := h2.1.n; omega)⟩,
(x22 + (1 : Nat)),
(by omega),
(by omega),
⟨(by omega),
⟨rfl,rfl⟩,rfl,
⟨rfl,rfl⟩,
⟨rfl,rfl⟩,rfl,rfl,
⟨rfl,rfl⟩,
⟨rfl,rfl⟩,
⟨rfl,
⟨rfl,rfl⟩,
⟨rfl,rfl⟩,
⟨rfl,rfl⟩,trivial⟩,rfl,rfl,trivial⟩,
⟨rl,
(by (try simp only [nat0] at *); exact set_here (by have := h2.2; omega) ‹_›)⟩,
⟨rl,rr⟩,
⟨rfl,trivial,trivial,trivial,trivial⟩,
⟨rfl,
⟨rfl,rfl⟩,
⟨rfl,rfl⟩,
⟨rfl,rfl⟩,trivial⟩,
⟨rl,rr⟩,
⟨rl,rr⟩,
⟨rl,rr⟩,trivial⟩,
fun g27 => have h27 := dF g27; ⟨⟨⟨trivial,trivial⟩,trivial⟩,
⟨rfl,
(by omega),
(by omega),
(by have := h2.2; have := h2.1.g.m; have := h2.1.n; omega)⟩,
⟨(by omega),
(by have := h2.2; have := h2.1.g.m; have := h2.1.n; omega)⟩,
(x22 + (1 : Nat)),
(by omega),
(by omega),
⟨(by omega),
⟨rfl,rfl⟩,rfl,
⟨rfl,rfl⟩,
⟨rfl,rfl⟩,rfl,rfl,
⟨rfl,rfl⟩,
⟨rfl,rfl⟩,
⟨rfl,
⟨rfl,rfl⟩,
⟨rfl,rfl⟩,
⟨rfl,rfl⟩,trivial⟩,rfl,rfl,trivial⟩,
⟨rl,
(by (try simp only [nat0] at *); exact set_there (by have := h2.2; omega) (by omega) ‹_›)⟩,
⟨rl,rr⟩,
⟨rfl,trivial,trivial,trivial,trivial⟩,
⟨rfl,
⟨rfl,rfl⟩,
⟨rfl,rfl⟩,
⟨rfl,rfl⟩,trivial⟩,
⟨rl,rr⟩,
⟨rl,rr⟩,
⟨rl,rr⟩,trivial⟩⟩,
fun g29 => have h29 := dF g29; ⟨(chF (CHx.x x1) (CHx.e x1) (CHx.t x1)),
(chF_ok h2.1 _ _),
⟨⟨rfl,
⟨rfl,rfl⟩,
⟨rfl,
(by have := (chF_len x1.x x1.e x1.t).trans h2.2; omega)⟩,
⟨rfl,rfl⟩,trivial⟩,trivial⟩,
⟨⟨⟨(Nat.le_refl _)⟩,rr⟩,
⟨⟨(by have := (chF_len x1.x x1.e x1.t).trans h2.2; omega)⟩,
(by rw [show (chF x1.x x1.e x1.t).ts.take x22 = (chF x1.x x1.e x1.t).ts from set_all h2.2 (by omega) (by omega)]; exact rr)⟩,
⟨⟨(Nat.le_refl _)⟩,rr⟩,trivial⟩,
((0 : Nat)),
⟨(by omega),
⟨(by omega),rfl,rfl,
⟨rfl,rfl⟩,
⟨rfl,rfl⟩,
⟨rfl,rfl⟩,rfl,rfl,
⟨rfl,rfl⟩,
⟨rfl,rfl⟩,
⟨rfl,
⟨rfl,rfl⟩,
⟨rfl,rfl⟩,
⟨rfl,rfl⟩,trivial⟩,rfl,rfl,trivial⟩,
⟨rl,rr⟩,
⟨rfl,
⟨rfl,rfl⟩,
⟨rfl,rfl⟩,
⟨rfl,rfl⟩,trivial⟩,
⟨rl,rr⟩,
⟨rl,rr⟩,
⟨rfl,trivial,trivial,trivial,trivial⟩,
⟨rl,rr⟩,
⟨rl,rr⟩,
⟨rl,rr⟩,trivial⟩,
fun x32 => fun h33 => ⟨fun g34 => have h34 := dT g34; ⟨⟨(by omega),
(by omega)⟩,
(by omega),
⟨(by omega),
(by assumption)⟩,
(by have : (chF x1.x x1.e x1.t).g.n = x1.x.g.n := rfl; omega),
fun g35 => have h35 := dT g35; ⟨⟨(by have := h2.1.n; have := cntAt_rng x1.x.d (chF x1.x x1.e x1.t).d x32; omega),
(by have := h2.1.n; have := cntAt_rng x1.x.d (chF x1.x x1.e x1.t).d x32; omega)⟩,
⟨(by omega),
(by have := h2.2; have := h2.1.g.m; have := h2.1.n; omega)⟩,
(x32 + (1 : Nat)),
(by have : (chF x1.x x1.e x1.t).g.n = x1.x.g.n := rfl; omega),
(by have : (chF x1.x x1.e x1.t).g.n = x1.x.g.n := rfl; omega),
⟨(by omega),
(by simp only [nat0] at *; exact (cntAt_yes ‹_›).symm),rfl,
⟨rfl,rfl⟩,
⟨rfl,rfl⟩,
⟨rfl,rfl⟩,rfl,rfl,
⟨rfl,rfl⟩,
⟨rfl,rfl⟩,
⟨rfl,
⟨rfl,rfl⟩,
⟨rfl,rfl⟩,
⟨rfl,rfl⟩,trivial⟩,rfl,rfl,trivial⟩,
⟨rl,rr⟩,
⟨rfl,
⟨rfl,rfl⟩,
⟨rfl,rfl⟩,
⟨rfl,rfl⟩,trivial⟩,
⟨rl,rr⟩,
⟨rl,rr⟩,
⟨rfl,trivial,trivial,trivial,trivial⟩,
⟨rl,rr⟩,
⟨rl,rr⟩,
⟨rl,rr⟩,trivial⟩,
fun g37 => have h37 := dF g37; ⟨⟨(by omega),
(by have := h2.2; have := h2.1.g.m; have := h2.1.n; omega)⟩,
(x32 + (1 : Nat)),
(by have : (chF x1.x x1.e x1.t).g.n = x1.x.g.n := rfl; omega),
(by have : (chF x1.x x1.e x1.t).g.n = x1.x.g.n := rfl; omega),
⟨(by omega),
(by simp only [nat0] at *; exact (cntAt_no ‹_›).symm),rfl,
⟨rfl,rfl⟩,
⟨rfl,rfl⟩,
⟨rfl,rfl⟩,rfl,rfl,
⟨rfl,rfl⟩,
⟨rfl,rfl⟩,
⟨rfl,
⟨rfl,rfl⟩,
⟨rfl,rfl⟩,
⟨rfl,rfl⟩,trivial⟩,rfl,rfl,trivial⟩,
⟨rl,rr⟩,
⟨rfl,
⟨rfl,rfl⟩,
⟨rfl,rfl⟩,
⟨rfl,rfl⟩,trivial⟩,
⟨rl,rr⟩,
⟨rl,rr⟩,
⟨rfl,trivial,trivial,trivial,trivial⟩,
⟨rl,rr⟩,
⟨rl,rr⟩,
⟨rl,rr⟩,trivial⟩⟩,
fun g39 => have h39 := dF g39; ⟨⟨⟨rfl,
⟨rfl,rfl⟩,
⟨rfl,
(by omega)⟩,
⟨rfl,rfl⟩,trivial⟩,
(by have : (chF x1.x x1.e x1.t).g.n = x1.x.g.n := rfl; rw [show x32 = x1.x.g.n by omega]; exact (ch_yes (x := x1.x) (e := x1.e) (t := x1.t) (by omega)).2.1.symm),
((ch_yes (x := x1.x) (e := x1.e) (t := x1.t) (by omega)).2.2.symm),trivial⟩,
⟨⟨(by omega)⟩,
(by rw [(ch_yes (x := x1.x) (e := x1.e) (t := x1.t) (by omega)).1, show (chF x1.x x1.e x1.t).ts.take x22 = (chF x1.x x1.e x1.t).ts from set_all h2.2 (by omega) (by omega)]; exact rr)⟩,trivial⟩⟩⟩⟩⟩⟩⟩)
theorem ch_good : Good Tryd.prog 41 chC /\ FnOk Tryd.prog 41 := good_of tok conW5 (fn := Tryd.f41) rfl (by decide +kernel) (fun _ => rfl) ch_keeps
def FX.s (x : FX) (s : Int) : FX := ⟨x.g, x.ts, [s]⟩
def atP (x : FX) (v : Int) (s : Int) : Bool := decide ((x.s s).d.getD v.toNat default = x.d.getD v.toNat default)
def etm (x : FX) (v : Int) : Int × Int :=
 if v < 0 ∨ (x.g.n : Int) <= v ∨ x.d.getD v.toNat default = 4611686018427387904 then (4611686018427387904, -1)
 else match x.src.find? (atP x v) with
  | some s => (x.d.getD v.toNat default, s)
  | none => (4611686018427387904, -1)
theorem find_at {p : Int -> Bool} {l : List Int} {k : Nat} (h : (l.take k).find? p = none) (hk : k < l.length) (hp : p (l.getD k default) = true) : l.find? p = some (l.getD k default) := by
 have e : l = l.take k ++ (l.getD k default :: l.drop (k + 1)) := by rw [<- drop_getD hk, List.take_append_drop]
 conv => lhs; rw [e]
 rw [List.find?_append, h, List.find?_cons_of_pos hp]; rfl
theorem find_go {p : Int -> Bool} {l : List Int} {k : Nat} (h : (l.take k).find? p = none) (hk : k < l.length) (hp : p (l.getD k default) = false) : (l.take (k + 1)).find? p = none := by
 rw [take_succ_getD (d := default) hk, List.find?_append, h, List.find?_cons_of_neg (by rw [hp]; decide)]; rfl
theorem etm_no {x : FX} {v : Int} (h : v < 0 ∨ (x.g.n : Int) <= v ∨ x.d.getD v.toNat default = 4611686018427387904) : etm x v = (4611686018427387904, -1) := if_pos h
theorem etm_at {x : FX} {v : Int} (h : ¬ (v < 0 ∨ (x.g.n : Int) <= v ∨ x.d.getD v.toNat default = 4611686018427387904)) {k : Nat} (h1 : (x.src.take k).find? (atP x v) = none) (hk : (k : Int) < x.src.length)
  (hp : (x.s (x.src.getD k default)).d.getD v.toNat default = x.d.getD v.toNat default) : etm x v = (x.d.getD v.toNat default, x.src.getD k default) := by
 unfold etm; rw [if_neg h, find_at h1 (by omega) (decide_eq_true hp)]
theorem etm_end {x : FX} {v : Int} (h : ¬ (v < 0 ∨ (x.g.n : Int) <= v ∨ x.d.getD v.toNat default = 4611686018427387904)) {k : Nat} (h1 : (x.src.take k).find? (atP x v) = none) (hk : ¬ (k : Int) < x.src.length) : etm x v = (4611686018427387904, -1) := by
 rw [List.take_of_length_le (by omega)] at h1
 unfold etm; rw [if_neg h, h1]
def etC : CT where
 X := FVx
 pre := fun x => FXok x.x
 args := fun x => [rmA x.x 100000, .i .i64 x.v]
 g0 := fun x => rmH x.x 100000
 res := fun x => .tup [.i .i64 (etm x.x x.v).1, .i .i64 (etm x.x x.v).2]
 g1 := fun _ => []
def etI (x : FVx) (id : Nat) : Option Inv := match id with
 | 0 => some { X := Nat, ok := fun k => k <= x.x.src.length /\ (x.x.src.take k).find? (atP x.x x.v) = none, fr := fun k => [(34, .i .i64 k)], hp := fun _ => [], me := fun k => x.x.src.length - k }
 | _ => none
def cfgW6 : Cfg := ⟨T, [], [(13, .one eallC), (30, .one qfromC)], noInv, 16, {}⟩
theorem fxs_ok {x : FX} (h : FXok x) (s : Int) : FXok (x.s s) := ⟨h.g, h.n, by show 1 <= 1048576; omega⟩
theorem etm_n0 {x : FX} {v : Int} (h1 : ¬ v < 0) (h2 : ¬ (x.g.n : Int) <= v) (h3 : ¬ x.d.getD v.toNat default = 4611686018427387904) : ¬ (v < 0 ∨ (x.g.n : Int) <= v ∨ x.d.getD v.toNat default = 4611686018427387904) := fun q => q.elim h1 fun q => q.elim h2 h3
set_option maxRecDepth 100000 in
theorem et_keeps : Keeps cfgW6 Tryd.f15 etC etI := Eq.mp (show ((∀ x1 : FVx, ((FXok x1.x)-> (((decide (x1.v < (0 : Int)) = false)-> (((decide ((x1.x.g.n : Int) <= x1.v) = false)-> (∃ x5 : FX, ((FXok x5)/\(((((x1.x.g.n : Int) = (x5.g.n : Int))/\((0=0 /\ x1.x.g.es.length = x5.g.es.length)/\((0=0 /\ x1.x.ts.length = x5.ts.length)/\((0=0 /\ x1.x.src.length = x5.src.length)/\True))))/\True)/\((((RLe x5.g.es.length x1.x.g.es.length)/\(RowsEq [.int .i64, .int .i64, .int .i64] x5.g.es.length (encL encE x1.x.g.es) (encL encE x5.g.es)))/\(((RLe x5.ts.length x1.x.ts.length)/\(RI x5.ts.length x1.x.ts x5.ts))/\(((RLe x5.src.length x1.x.src.length)/\(RI x5.src.length x1.x.src x5.src))/\True)))/\((((0 : Int) <= x1.v)/\(x1.v < (x5.g.n : Int)))/\((0 + Int.toNat x1.v < x5.g.n)/\(((decide ((FX.d x5).getD (0 + Int.toNat x1.v) default = 4611686018427387904) = true)-> ((((4611686018427387904 : Int) = Prod.fst (etm x1.x x1.v))/\(((-1 : Int) = Prod.snd (etm x1.x x1.v))/\True))/\True))/\((decide ((FX.d x5).getD (0 + Int.toNat x1.v) default = 4611686018427387904) = false)-> (∃ x8 : FX, ((FXok x8)/\(((((x1.x.g.n : Int) = (x8.g.n : Int))/\((0=0 /\ x1.x.g.es.length = x8.g.es.length)/\((0=0 /\ x1.x.ts.length = x8.ts.length)/\((0=0 /\ x1.x.src.length = x8.src.length)/\True))))/\True)/\((((RLe x8.g.es.length x1.x.g.es.length)/\(RowsEq [.int .i64, .int .i64, .int .i64] x8.g.es.length (encL encE x1.x.g.es) (encL encE x8.g.es)))/\(((RLe x8.ts.length x1.x.ts.length)/\(RI x8.ts.length x1.x.ts x8.ts))/\(((RLe x8.src.length x1.x.src.length)/\(RI x8.src.length x1.x.src x8.src))/\True)))/\((((0 : Int) <= x1.v)/\(x1.v < (x8.g.n : Int)))/\((0 + Int.toNat x1.v < x8.g.n)/\(∃ x9 : Nat, ((((x9 <= x1.x.src.length)/\(List.find? (atP x1.x x1.v) (List.take x9 x1.x.src) = none))/\(((0 = (x9 : Int))/\(((x1.x.src.length : Int) = (x1.x.src.length : Int))/\((0=0 /\ x1.x.src.length = x1.x.src.length)/\(((FX.d x8).getD (0 + Int.toNat x1.v) default = (FX.d x8).getD (0 + Int.toNat x1.v) default)/\(((x1.x.g.n : Int) = (x1.x.g.n : Int))/\((0=0 /\ 0=0)/\((0=0 /\ 0=0)/\(x1.v = x1.v/\((decide (x1.v < (0 : Int)) = decide (x1.v < (0 : Int)))/\((decide (x1.v < (0 : Int)) = decide (x1.v < (0 : Int)))/\(x1.v = x1.v/\((0=0 /\ 0=0)/\((((x1.x.g.n : Int) = (x1.x.g.n : Int))/\((0=0 /\ x1.x.g.es.length = x1.x.g.es.length)/\((0=0 /\ x1.x.ts.length = x1.x.ts.length)/\((0=0 /\ x1.x.src.length = x1.x.src.length)/\True))))/\(x1.v = x1.v/\True))))))))))))))/\(((RLe x8.g.n x8.g.n)/\(RI x8.g.n (FX.d x8) (FX.d x8)))/\(((RLe x5.g.n x5.g.n)/\(RI x5.g.n (FX.d x5) (FX.d x5)))/\((((x1.x.g.n : Int) = (x1.x.g.n : Int))/\((0=0 /\ x1.x.g.es.length = x1.x.g.es.length)/\((0=0 /\ x1.x.ts.length = x1.x.ts.length)/\((0=0 /\ x1.x.src.length = x1.x.src.length)/\True))))/\(((RLe x1.x.g.es.length x1.x.g.es.length)/\(RowsEq [.int .i64, .int .i64, .int .i64] x1.x.g.es.length (encL encE x1.x.g.es) (encL encE x1.x.g.es)))/\(((RLe x1.x.ts.length x1.x.ts.length)/\(RI x1.x.ts.length x1.x.ts x1.x.ts))/\(((RLe x1.x.src.length x1.x.src.length)/\(RI x1.x.src.length x1.x.src x1.x.src))/\True))))))))/\(∀ x10 : Nat, ((x10 <= x1.x.src.length /\ List.find? (atP x1.x x1.v) (List.take x10 x1.x.src) = none)-> (((decide ((x10 : Int) < (x1.x.src.length : Int)) = true)-> ((((0 : Int) <= (x10 : Int))/\((x10 : Int) < (x1.x.src.length : Int)))/\((0 + Int.toNat (x10 : Int) < x1.x.src.length)/\(((True/\True)/\True)/\(∃ x13 : FX, ((FXok x13)/\(((((x1.x.g.n : Int) = (x13.g.n : Int))/\((0=0 /\ x1.x.g.es.length = x13.g.es.length)/\True))/\((0=0 /\ x1.x.ts.length = x13.ts.length)/\((0=0/\((1 : Nat) = x13.src.length))/\True)))/\((((RLe x13.g.es.length x1.x.g.es.length)/\(RowsEq [.int .i64, .int .i64, .int .i64] x13.g.es.length (encL encE x1.x.g.es) (encL encE x13.g.es)))/\(((RLe x13.ts.length x1.x.ts.length)/\(RI x13.ts.length x1.x.ts x13.ts))/\(((RLe x13.src.length 1)/\(RowsEq [.int .i64] x13.src.length (litRows ((D.i (x1.x.src.getD (0 + Int.toNat (x10 : Int)) default) :: @List.nil D) :: @List.nil (List D))) (encL encI x13.src)))/\True)))/\((((0 : Int) <= x1.v)/\(x1.v < (x13.g.n : Int)))/\((0 + Int.toNat x1.v < x13.g.n)/\(((decide ((distG x13.g x13.ts x13.src true).getD (0 + Int.toNat x1.v) default = (FX.d x8).getD (0 + Int.toNat x1.v) default) = true)-> ((((FX.d x8).getD (0 + Int.toNat x1.v) default = Prod.fst (etm x1.x x1.v))/\((x1.x.src.getD (0 + Int.toNat (x10 : Int)) default = Prod.snd (etm x1.x x1.v))/\True))/\True))/\((decide ((distG x13.g x13.ts x13.src true).getD (0 + Int.toNat x1.v) default = (FX.d x8).getD (0 + Int.toNat x1.v) default) = false)-> ((((-9223372036854775808 : Int) <= (x10 : Int) + 1)/\((x10 : Int) + 1 <= (9223372036854775807 : Int)))/\(∃ x16 : Nat, ((x1.x.src.length - x16 < x1.x.src.length - x10)/\(((x16 <= x1.x.src.length)/\(List.find? (atP x1.x x1.v) (List.take x16 x1.x.src) = none))/\((((x10 : Int) + 1 = (x16 : Int))/\(((x1.x.src.length : Int) = (x1.x.src.length : Int))/\((0=0 /\ x1.x.src.length = x1.x.src.length)/\(((FX.d x8).getD (0 + Int.toNat x1.v) default = (FX.d x8).getD (0 + Int.toNat x1.v) default)/\(((x1.x.g.n : Int) = (x1.x.g.n : Int))/\((0=0 /\ 0=0)/\((0=0 /\ 0=0)/\(x1.v = x1.v/\((decide (x1.v < (0 : Int)) = decide (x1.v < (0 : Int)))/\((decide (x1.v < (0 : Int)) = decide (x1.v < (0 : Int)))/\(x1.v = x1.v/\((0=0 /\ 0=0)/\((((x1.x.g.n : Int) = (x1.x.g.n : Int))/\((0=0 /\ x1.x.g.es.length = x1.x.g.es.length)/\((0=0 /\ x1.x.ts.length = x1.x.ts.length)/\((0=0 /\ x1.x.src.length = x1.x.src.length)/\True))))/\(x1.v = x1.v/\True))))))))))))))/\(((RLe x8.g.n x8.g.n)/\(RI x8.g.n (FX.d x8) (FX.d x8)))/\(((RLe x5.g.n x5.g.n)/\(RI x5.g.n (FX.d x5) (FX.d x5)))/\((((x1.x.g.n : Int) = (x1.x.g.n : Int))/\((0=0 /\ x1.x.g.es.length = x1.x.g.es.length)/\((0=0 /\ x1.x.ts.length = x1.x.ts.length)/\((0=0 /\ x1.x.src.length = x1.x.src.length)/\True))))/\(((RLe x1.x.g.es.length x1.x.g.es.length)/\(RowsEq [.int .i64, .int .i64, .int .i64] x1.x.g.es.length (encL encE x1.x.g.es) (encL encE x1.x.g.es)))/\(((RLe x1.x.ts.length x1.x.ts.length)/\(RI x1.x.ts.length x1.x.ts x1.x.ts))/\(((RLe x1.x.src.length x1.x.src.length)/\(RI x1.x.src.length x1.x.src x1.x.src))/\True)))))))))))))))))))))))/\((decide ((x10 : Int) < (x1.x.src.length : Int)) = false)-> ((((4611686018427387904 : Int) = Prod.fst (etm x1.x x1.v))/\(((-1 : Int) = Prod.snd (etm x1.x x1.v))/\True))/\True))))))))))))))))))))))/\((decide ((x1.x.g.n : Int) <= x1.v) = true)-> ((((4611686018427387904 : Int) = Prod.fst (etm x1.x x1.v))/\(((-1 : Int) = Prod.snd (etm x1.x x1.v))/\True))/\True))))/\((decide (x1.v < (0 : Int)) = true)-> ((((4611686018427387904 : Int) = Prod.fst (etm x1.x x1.v))/\(((-1 : Int) = Prod.snd (etm x1.x x1.v))/\True))/\True)))))) = (Keeps cfgW6 Tryd.f15 etC etI) by kernel_rfl) (fun x1 => fun h2 => ⟨fun g3 => have h3 := dF g3; ⟨fun g4 => have h4 := dF g4; ⟨(FVx.x x1),
(by omega),
⟨⟨rfl,
⟨rfl,rfl⟩,
⟨rfl,rfl⟩,
⟨rfl,rfl⟩,trivial⟩,trivial⟩,
⟨⟨rl,rr⟩,
⟨rl,rr⟩,
⟨rl,rr⟩,trivial⟩,
⟨(by omega),
(by omega)⟩,
(by omega),
fun g6 => have h6 := dT g6; ⟨⟨(by (try simp only [nat0, Nat.zero_add] at *); have e := etm_no (x := x1.x) (v := x1.v) (.inr (.inr ‹_›)); exact (congrArg Prod.fst e).symm),
(by (try simp only [nat0, Nat.zero_add] at *); have e := etm_no (x := x1.x) (v := x1.v) (.inr (.inr ‹_›)); exact (congrArg Prod.snd e).symm),trivial⟩,trivial⟩,
fun g7 => have h7 := dF g7; ⟨(FVx.x x1),
(by omega),
⟨⟨rfl,
⟨rfl,rfl⟩,
⟨rfl,rfl⟩,
⟨rfl,rfl⟩,trivial⟩,trivial⟩,
⟨⟨rl,rr⟩,
⟨rl,rr⟩,
⟨rl,rr⟩,trivial⟩,
⟨(by omega),
(by omega)⟩,
(by omega),
((0 : Nat)),
⟨⟨(by omega),
(by grind)⟩,
⟨(by omega),rfl,
⟨rfl,rfl⟩,rfl,rfl,
⟨rfl,rfl⟩,
⟨rfl,rfl⟩,rfl,rfl,rfl,rfl,
⟨rfl,rfl⟩,
⟨rfl,
⟨rfl,rfl⟩,
⟨rfl,rfl⟩,
⟨rfl,rfl⟩,trivial⟩,rfl,trivial⟩,
⟨rl,rr⟩,
⟨rl,rr⟩,
⟨rfl,
⟨rfl,rfl⟩,
⟨rfl,rfl⟩,
⟨rfl,rfl⟩,trivial⟩,
⟨rl,rr⟩,
⟨rl,rr⟩,
⟨rl,rr⟩,trivial⟩,
fun x10 => fun h11 => ⟨fun g12 => have h12 := dT g12; ⟨⟨(by omega),
(by omega)⟩,
(by omega),
⟨⟨trivial,trivial⟩,trivial⟩,
({ g := FX.g (FVx.x x1), ts := FX.ts (FVx.x x1), src := List.getD (FX.src (FVx.x x1)) x10 default :: @List.nil Int : FX }),
(fxs_ok h2 _),
⟨⟨rfl,
⟨rfl,rfl⟩,trivial⟩,
⟨rfl,rfl⟩,
⟨rfl,
(by grind)⟩,trivial⟩,
⟨⟨rl,rr⟩,
⟨rl,rr⟩,
⟨⟨(by grind)⟩,
(by simp only [nat0] at *; exact lit1)⟩,trivial⟩,
⟨(by omega),
(by (try dsimp only at *); omega)⟩,
(by (try dsimp only at *); omega),
fun g14 => have h14 := dT g14; ⟨⟨(by simp only [nat0, Nat.zero_add] at *; (try simp only [nat0, Nat.zero_add] at *); have e := etm_at (x := x1.x) (v := x1.v) (etm_n0 ‹_› ‹_› ‹_›) h11.2 h12 ‹_›; exact (congrArg Prod.fst e).symm),
(by simp only [nat0, Nat.zero_add] at *; (try simp only [nat0, Nat.zero_add] at *); have e := etm_at (x := x1.x) (v := x1.v) (etm_n0 ‹_› ‹_› ‹_›) h11.2 h12 ‹_›; exact (congrArg Prod.snd e).symm),trivial⟩,trivial⟩,
fun g15 => have h15 := dF g15; ⟨⟨(by omega),
(by have := h2.e; omega)⟩,
(x10 + (1 : Nat)),
(by omega),
⟨(by omega),
(by simp only [nat0, Nat.zero_add] at *; exact find_go h11.2 (by omega) (decide_eq_false ‹_›))⟩,
⟨(by omega),rfl,
⟨rfl,rfl⟩,rfl,rfl,
⟨rfl,rfl⟩,
⟨rfl,rfl⟩,rfl,rfl,rfl,rfl,
⟨rfl,rfl⟩,
⟨rfl,
⟨rfl,rfl⟩,
⟨rfl,rfl⟩,
⟨rfl,rfl⟩,trivial⟩,rfl,trivial⟩,
⟨rl,rr⟩,
⟨rl,rr⟩,
⟨rfl,
⟨rfl,rfl⟩,
⟨rfl,rfl⟩,
⟨rfl,rfl⟩,trivial⟩,
⟨rl,rr⟩,
⟨rl,rr⟩,
⟨rl,rr⟩,trivial⟩⟩,
fun g17 => have h17 := dF g17; ⟨⟨(by simp only [nat0, Nat.zero_add] at *; (try simp only [nat0, Nat.zero_add] at *); have e := etm_end (x := x1.x) (v := x1.v) (etm_n0 ‹_› ‹_› ‹_›) h11.2 ‹_›; exact (congrArg Prod.fst e).symm),
(by simp only [nat0, Nat.zero_add] at *; (try simp only [nat0, Nat.zero_add] at *); have e := etm_end (x := x1.x) (v := x1.v) (etm_n0 ‹_› ‹_› ‹_›) h11.2 ‹_›; exact (congrArg Prod.snd e).symm),trivial⟩,trivial⟩⟩⟩⟩,
fun g18 => have h18 := dT g18; ⟨⟨((congrArg Prod.fst (etm_no (x := x1.x) (v := x1.v) (.inr (.inl ‹_›)))).symm),
((congrArg Prod.snd (etm_no (x := x1.x) (v := x1.v) (.inr (.inl ‹_›)))).symm),trivial⟩,trivial⟩⟩,
fun g19 => have h19 := dT g19; ⟨⟨((congrArg Prod.fst (etm_no (x := x1.x) (v := x1.v) (.inl ‹_›))).symm),
((congrArg Prod.snd (etm_no (x := x1.x) (v := x1.v) (.inl ‹_›))).symm),trivial⟩,trivial⟩⟩)
end Go.Sym