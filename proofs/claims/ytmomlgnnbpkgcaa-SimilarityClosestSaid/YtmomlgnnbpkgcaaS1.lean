import Derived.Test.YtmomlgnnbpkgcaaI2
import Derived.Test.YtmomlgnnbpkgcaaXD
namespace Go.Sym
set_option linter.unusedVariables false
set_option linter.unusedSimpArgs false
open Go.Proofs
def INF : Int := 4611686018427387904
def tt (ts : List Int) (i : Nat) : Int := if i < ts.length /\ 1 <= ts.getD i default /\ ts.getD i default <= 1048576 then ts.getD i default else INF
structure TX where
 ts : List Int
 i : Nat
def travelC : CT where
 X := TX
 pre := fun x => x.i <= 1073741824
 args := fun x => [.sl 100000 0 x.ts.length, .i .i64 x.i]
 g0 := fun x => [(100000, .rows .bor k1 x.ts.length (encL encI x.ts))]
 res := fun x => .i .i64 (tt x.ts x.i)
 g1 := fun _ => []
theorem tt_yes {ts : List Int} {i : Nat} (h : i < ts.length /\ 1 <= ts.getD i default /\ ts.getD i default <= 1048576) : tt ts i = ts.getD i default := if_pos h
theorem tt_no {ts : List Int} {i : Nat} (h : ¬ (i < ts.length /\ 1 <= ts.getD i default /\ ts.getD i default <= 1048576)) : tt ts i = 4611686018427387904 := if_neg h
set_option maxRecDepth 100000 in
theorem travel_keeps : Keeps cfgN0 Try.f60 travelC noIv := Eq.mp (show ((∀ x1 : TX, ((x1.i <= (1073741824 : Nat))-> (((decide ((x1.ts.length : Int) <= (x1.i : Int)) = false)-> ((((0 : Int) <= (x1.i : Int))/\((x1.i : Int) < (x1.ts.length : Int)))/\((0 + Int.toNat (x1.i : Int) < x1.ts.length)/\(((decide (x1.ts.getD (0 + Int.toNat (x1.i : Int)) default < 1) = false)-> ((((0 : Int) <= (x1.i : Int))/\((x1.i : Int) < (x1.ts.length : Int)))/\((0 + Int.toNat (x1.i : Int) < x1.ts.length)/\(((decide (1048576 < x1.ts.getD (0 + Int.toNat (x1.i : Int)) default) = true)-> (((4611686018427387904 : Int) = tt x1.ts x1.i)/\True))/\((decide (1048576 < x1.ts.getD (0 + Int.toNat (x1.i : Int)) default) = false)-> ((((0 : Int) <= (x1.i : Int))/\((x1.i : Int) < (x1.ts.length : Int)))/\((0 + Int.toNat (x1.i : Int) < x1.ts.length)/\((x1.ts.getD (0 + Int.toNat (x1.i : Int)) default = tt x1.ts x1.i)/\True))))))))/\((decide (x1.ts.getD (0 + Int.toNat (x1.i : Int)) default < 1) = true)-> (((4611686018427387904 : Int) = tt x1.ts x1.i)/\True))))))/\((decide ((x1.ts.length : Int) <= (x1.i : Int)) = true)-> (((4611686018427387904 : Int) = tt x1.ts x1.i)/\True)))))) = (Keeps cfgN0 Try.f60 travelC noIv) by kernel_rfl) (fun x1 => fun h2 => ⟨fun g3 => have h3 := of_decide_eq_false g3; ⟨⟨(by omega),
(by omega)⟩,
(by omega),
fun g4 => have h4 := of_decide_eq_false g4; ⟨⟨(by omega),
(by omega)⟩,
(by omega),
fun g5 => have h5 := of_decide_eq_true g5; ⟨(by (try simp only [nat0] at *); rw [tt_no (by omega)]),trivial⟩,
fun g6 => have h6 := of_decide_eq_false g6; ⟨⟨(by omega),
(by omega)⟩,
(by omega),
(by (simp only [nat0] at *; rw [tt_yes (by omega)])),trivial⟩⟩,
fun g7 => have h7 := of_decide_eq_true g7; ⟨(by (try simp only [nat0] at *); rw [tt_no (by omega)]),trivial⟩⟩,
fun g8 => have h8 := of_decide_eq_true g8; ⟨(by (try simp only [nat0] at *); rw [tt_no (by omega)]),trivial⟩⟩)
theorem travel_good : Good Try.prog 60 travelC /\ FnOk Try.prog 60 := good_of tok conN0 (fn := Try.f60) rfl (by decide +kernel) (fun _ => rfl) travel_keeps
def cfgTr : Cfg := ⟨T, [], [(60, .one travelC), (59, .one edgesC)], noInv, 13, {}⟩
theorem conTr : ConOk Try.prog cfgTr := ConL.ok (.cons (ConL.one travel_good) (.cons (ConL.one edges_good) .nil))
structure GTx where
 g : Gr
 ts : List Int
def ttAt (ts : List Int) (n k : Nat) : List Int := (List.range n).map fun i => if i < k then tt ts i else 0
def ttL (ts : List Int) (n : Nat) : List Int := (List.range n).map (tt ts)
theorem ttAt_len (ts : List Int) (n k : Nat) : (ttAt ts n k).length = n := by simp [ttAt]
theorem ttAt_full (ts : List Int) (n : Nat) : ttAt ts n n = ttL ts n := by
 unfold ttAt ttL
 apply List.map_congr_left
 intro i hi
 rw [List.mem_range] at hi
 rw [if_pos hi]
theorem ttAt_zero (ts : List Int) (n : Nat) : ttAt ts n 0 = List.replicate n 0 := by
 apply List.ext_getElem (by simp [ttAt])
 intro i h1 h2
 simp [ttAt]
theorem map_range_set {n k : Nat} {f g : Nat -> Int} (hk : k < n) (h : ∀ i, i ≠ k -> g i = f i) : (List.range n).map g = ((List.range n).map f).set k (g k) := by
 apply List.ext_getElem (by simp)
 intro i h1 h2
 rw [List.getElem_set]
 by_cases e : k = i
 ·subst e; simp
 ·rw [if_neg e]; simp [h i (Ne.symm e)]
theorem ttAt_succ {ts : List Int} {n k : Nat} (hk : k < n) : ttAt ts n (k + 1) = (ttAt ts n k).set k (tt ts k) := by
 have := map_range_set (g := fun i => if i < k + 1 then tt ts i else 0) (f := fun i => if i < k then tt ts i else 0) hk (fun i hi => by
  by_cases h : i < k
  ·rw [if_pos h, if_pos (by omega)]
  ·rw [if_neg h, if_neg (by omega)])
 rw [if_pos (by omega)] at this
 exact this
theorem rows_setI {xs : List Int} {r n : Nat} {v : Int} (hr : r < xs.length) : RowsEq k1 n (setRow (encL encI xs) r 0 [.i v]) (encL encI (xs.set r v)) :=
 rowsEq_set hr (by simp only [rowEq, Kd.eqv, k1]; exact ⟨rfl, trivial⟩)
theorem rows_zeroI {n : Nat} {ks : List Kd} (hk : ks = k1) : RowsEq k1 n (fun _ j => zRow ks j) (encL encI (List.replicate n 0)) := by
 subst hk
 exact rowsEq_zero (α := Int) (e := encI) (by simp only [rowEq, Kd.eqv, k1]; exact ⟨rfl, trivial⟩)
def travelsC : CT where
 X := GTx
 pre := fun x => x.g.es.length <= 16384
 args := fun x => [.p 100000 0 0, .sl 100001 0 x.ts.length]
 g0 := fun x => graphH x.g 100000 ++ [(100001, .rows .bor k1 x.ts.length (encL encI x.ts))]
 res := fun x => .sl 1 0 x.g.es.length
 g1 := fun x => [(1, .rows .own k1 x.g.es.length (encL encI (ttL x.ts x.g.es.length)))]
def travelsI (x : GTx) (id : Nat) : Option Inv := match id with
 | 0 => some { X := Nat, ok := fun k => k <= x.g.es.length, fr := fun k => [(12, .i .i64 k), (5, .sl 5 0 x.g.es.length)], hp := fun k => [(5, .rows .own k1 x.g.es.length (encL encI (ttAt x.ts x.g.es.length k)))], me := fun k => x.g.es.length - k }
 | _ => none
set_option maxRecDepth 100000 in
theorem travels_keeps : Keeps cfgTr Try.f47 travelsC travelsI := Eq.mp (show ((∀ x1 : GTx, ((x1.g.es.length <= (16384 : Nat))-> (∃ x3 : Gr, (True/\(((0=0 /\ 0=0)/\True)/\(((RLe 1 1/\(RowsEq [.sl [.int .i64, .int .i64, .int .i64], .sl [.sl [.int .i64]], .sl [.sl [.int .i64]]] 1 (encG x1.g) (encG x3)))/\True)/\((((0 : Int) <= (x3.es.length : Int))/\(((x3.es.length : Int) <= (x3.es.length : Int))/\((x3.es.length : Int) <= (↑(1073741824 : Nat) : Int))))/\(∃ x4 : Nat, (((x4 <= x1.g.es.length)/\(((0 = (x4 : Int))/\((0=0/\(Int.toNat (x3.es.length : Int) = x1.g.es.length))/\(((↑(Int.toNat (x3.es.length : Int)) : Int) = (↑(Int.toNat (x3.es.length : Int)) : Int))/\(((x3.es.length : Int) = (x3.es.length : Int))/\((0=0 /\ 0=0)/\(True/\((0=0 /\ 0=0)/\((0=0 /\ x1.ts.length = x1.ts.length)/\True))))))))/\(((RLe x1.g.es.length (Int.toNat (x3.es.length : Int)))/\(RowsEq [.int .i64] x1.g.es.length (fun (x j : Nat) => zRow [.int .i64] j) (encL encI (ttAt x1.ts x1.g.es.length x4))))/\((RLe 1 1/\(RowsEq [.sl [.int .i64, .int .i64, .int .i64], .sl [.sl [.int .i64]], .sl [.sl [.int .i64]]] 1 (encG x1.g) (encG x1.g)))/\(((RLe x1.ts.length x1.ts.length)/\(RowsEq [.int .i64] x1.ts.length (encL encI x1.ts) (encL encI x1.ts)))/\True)))))/\(∀ x5 : Nat, ((x5 <= x1.g.es.length)-> (((decide ((x5 : Int) < (↑(Int.toNat (x3.es.length : Int)) : Int)) = true)-> (∃ x8 : TX, ((x8.i <= (1073741824 : Nat))/\(((0=0 /\ x1.ts.length = x8.ts.length)/\(((x5 : Int) = (x8.i : Int))/\True))/\((((RLe x8.ts.length x1.ts.length)/\(RowsEq [.int .i64] x8.ts.length (encL encI x1.ts) (encL encI x8.ts)))/\True)/\((((0 : Int) <= (x5 : Int))/\((x5 : Int) < (x1.g.es.length : Int)))/\(((0 + Int.toNat (x5 : Int) < x1.g.es.length)/\(True/\True))/\((((-9223372036854775808 : Int) <= (x5 : Int) + 1)/\((x5 : Int) + 1 <= (9223372036854775807 : Int)))/\(∃ x9 : Nat, ((x1.g.es.length - x9 < x1.g.es.length - x5)/\((x9 <= x1.g.es.length)/\((((x5 : Int) + 1 = (x9 : Int))/\((0=0 /\ x1.g.es.length = x1.g.es.length)/\(((↑(Int.toNat (x3.es.length : Int)) : Int) = (↑(Int.toNat (x3.es.length : Int)) : Int))/\(((x3.es.length : Int) = (x3.es.length : Int))/\((0=0 /\ 0=0)/\(True/\((0=0 /\ 0=0)/\((0=0 /\ x1.ts.length = x1.ts.length)/\True))))))))/\(((RLe x1.g.es.length x1.g.es.length)/\(RowsEq [.int .i64] x1.g.es.length (setRow (encL encI (ttAt x1.ts x1.g.es.length x5)) (0 + Int.toNat (x5 : Int)) 0 (D.i (tt x8.ts x8.i) :: @List.nil D)) (encL encI (ttAt x1.ts x1.g.es.length x9))))/\((RLe 1 1/\(RowsEq [.sl [.int .i64, .int .i64, .int .i64], .sl [.sl [.int .i64]], .sl [.sl [.int .i64]]] 1 (encG x1.g) (encG x1.g)))/\(((RLe x1.ts.length x1.ts.length)/\(RowsEq [.int .i64] x1.ts.length (encL encI x1.ts) (encL encI x1.ts)))/\True)))))))))))))))/\((decide ((x5 : Int) < (↑(Int.toNat (x3.es.length : Int)) : Int)) = false)-> ((0=0 /\ x1.g.es.length = x1.g.es.length)/\(((RLe x1.g.es.length x1.g.es.length)/\(RowsEq [.int .i64] x1.g.es.length (encL encI (ttAt x1.ts x1.g.es.length x5)) (encL encI (ttL x1.ts x1.g.es.length))))/\True)))))))))))))))) = (Keeps cfgTr Try.f47 travelsC travelsI) by kernel_rfl) (fun x1 => fun h2 => ⟨(GTx.g x1),trivial,
⟨⟨rfl,rfl⟩,trivial⟩,
⟨⟨⟨Nat.le_refl _⟩,RowsEq.rfl'⟩,trivial⟩,
⟨(by (try dsimp only at *); omega),
(by (try dsimp only at *); omega),
(by (try dsimp only at *); omega)⟩,
((0 : Nat)),
⟨(by (try dsimp only at *); omega),
⟨(by (try dsimp only at *); omega),
⟨rfl,
(by (try dsimp only at *); omega)⟩,rfl,rfl,
⟨rfl,rfl⟩,trivial,
⟨rfl,rfl⟩,
⟨rfl,rfl⟩,trivial⟩,
⟨⟨(by (try dsimp only at *); omega)⟩,
(by
       (rw [ttAt_zero]; exact rows_zeroI rfl))⟩,
⟨⟨Nat.le_refl _⟩,RowsEq.rfl'⟩,
⟨⟨Nat.le_refl _⟩,RowsEq.rfl'⟩,trivial⟩,
fun x5 => fun h6 => ⟨fun g7 => have h7 := of_decide_eq_true g7; ⟨({ ts := GTx.ts x1, i := x5 : TX }),
(by (try dsimp only at *); omega),
⟨⟨rfl,rfl⟩,rfl,trivial⟩,
⟨⟨⟨Nat.le_refl _⟩,RowsEq.rfl'⟩,trivial⟩,
⟨(by (try dsimp only at *); omega),
(by (try dsimp only at *); omega)⟩,
⟨(by (try dsimp only at *); omega),trivial,trivial⟩,
⟨(by (try dsimp only at *); omega),
(by (try dsimp only at *); omega)⟩,
(x5 + (1 : Nat)),
(by (try dsimp only at *); omega),
(by (try dsimp only at *); omega),
⟨(by (try dsimp only at *); omega),
⟨rfl,rfl⟩,rfl,rfl,
⟨rfl,rfl⟩,trivial,
⟨rfl,rfl⟩,
⟨rfl,rfl⟩,trivial⟩,
⟨⟨Nat.le_refl _⟩,
(by
       (rw [ttAt_succ (by omega), nat0]; exact rows_setI (by rw [ttAt_len]; omega)))⟩,
⟨⟨Nat.le_refl _⟩,RowsEq.rfl'⟩,
⟨⟨Nat.le_refl _⟩,RowsEq.rfl'⟩,trivial⟩,
fun g10 => have h10 := of_decide_eq_false g10; ⟨⟨rfl,rfl⟩,
⟨⟨Nat.le_refl _⟩,
(by
       (obtain rfl : x5 = x1.g.es.length := (by omega); rw [ttAt_full]; exact RowsEq.rfl'))⟩,trivial⟩⟩⟩)
theorem travels_good : Good Try.prog 47 travelsC /\ FnOk Try.prog 47 := good_of tok conTr (fn := Try.f47) rfl (by decide +kernel) (fun _ => rfl) travels_keeps
def isNodeC : CT where
 X := GIx
 pre := fun _ => True
 args := fun x => [.p 100000 0 0, .i .i64 x.i]
 g0 := fun x => graphH x.g 100000
 res := fun x => .b (decide (0 <= x.i /\ x.i < x.g.n))
 g1 := fun _ => []
def cfgIs : Cfg := ⟨T, [], [(52, .one nodesC)], noInv, 13, {}⟩
theorem conIs : ConOk Try.prog cfgIs := ConL.ok (.cons (ConL.one nodes_good) .nil)
set_option maxRecDepth 100000 in
theorem isNode_keeps : Keeps cfgIs Try.f53 isNodeC noIv := Eq.mp (show ((∀ x1 : GIx, (True -> (((decide ((0 : Int) <= x1.i) = true)-> (∃ x4 : Gr, (True/\(((0=0 /\ 0=0)/\True)/\(((RLe 1 1/\(RowsEq [.sl [.int .i64, .int .i64, .int .i64], .sl [.sl [.int .i64]], .sl [.sl [.int .i64]]] 1 (encG x1.g) (encG x4)))/\True)/\((decide (x1.i < (x4.n : Int)) = decide ((0 : Int) <= x1.i /\ x1.i < (x1.g.n : Int)))/\True))))))/\((decide ((0 : Int) <= x1.i) = false)-> ((false = decide ((0 : Int) <= x1.i /\ x1.i < (x1.g.n : Int)))/\True)))))) = (Keeps cfgIs Try.f53 isNodeC noIv) by kernel_rfl) (fun x1 => fun h2 => ⟨fun g3 => have h3 := of_decide_eq_true g3; ⟨(GIx.g x1),trivial,
⟨⟨rfl,rfl⟩,trivial⟩,
⟨⟨⟨Nat.le_refl _⟩,RowsEq.rfl'⟩,trivial⟩,
(by (try dsimp only at *); grind),trivial⟩,
fun g5 => have h5 := of_decide_eq_false g5; ⟨(by (try dsimp only at *); grind),trivial⟩⟩)
theorem isNode_good : Good Try.prog 53 isNodeC /\ FnOk Try.prog 53 := good_of tok conIs (fn := Try.f53) rfl (by decide +kernel) (fun _ => rfl) isNode_keeps
def swapL (l : List Int) (i j : Nat) : List Int := (l.set i (l.getD j default)).set j (l.getD i default)
theorem swapL_len (l : List Int) (i j : Nat) : (swapL l i j).length = l.length := by simp [swapL]
def up (l : List Int) (i : Nat) : List Int :=
 if h : 0 < i /\ l.getD i default < l.getD ((i - 1) / 2) default then up (swapL l i ((i - 1) / 2)) ((i - 1) / 2) else l
termination_by i
decreasing_by omega
def pushF (q : List Int) (c : Int) : List Int := up (q ++ [c]) q.length
theorem up_len (l : List Int) (i : Nat) : (up l i).length = l.length := by
 induction l, i using up.induct with
 | case1 l i h ih => rw [up, dif_pos h, ih, swapL_len]
 | case2 l i h => rw [up, dif_neg h]
theorem pushF_len (q : List Int) (c : Int) : (pushF q c).length = q.length + 1 := by unfold pushF; rw [up_len]; simp
structure QX where
 q : List Int
 d : Int
 v : Int
def pushC : CT where
 X := QX
 pre := fun x => x.q.length < 1073741824 /\ 0 <= x.d /\ x.d <= 1125899906842624 /\ 0 <= x.v /\ x.v < 4096
 args := fun x => [.p 100000 0 0, .i .i64 x.d, .i .i64 x.v]
 g0 := fun x => [(100000, .one .own [.sl 100001 0 x.q.length]), (100001, .rows .own k1 x.q.length (encL encI x.q))]
 res := fun _ => .tup []
 g1 := fun x => [(100000, .one .own [.sl 1 0 (x.q.length + 1)]), (100001, .dead), (1, .rows .own k1 (x.q.length + 1) (encL encI (pushF x.q (x.d * 4096 + x.v))))]
structure UpX where
 l : List Int
 i : Nat
def pushI (x : QX) (id : Nat) : Option Inv := match id with
 | 0 => some { X := UpX, ok := fun u => u.l.length = x.q.length + 1 /\ u.i < u.l.length /\ up u.l u.i = pushF x.q (x.d * 4096 + x.v),
               fr := fun u => [(7, .i .i64 u.i), (6, .sl 6 0 (x.q.length + 1)), (0, .p 100000 0 0)], hp := fun u => [(6, .rows .own k1 (x.q.length + 1) (encL encI u.l)), (100000, .one .own [.u]), (100001, .dead)], me := fun u => u.i }
 | _ => none
theorem push_rows {l : List Int} {c : Int} : RowsEq k1 (l.length + 1) (appRows l.length (encL encI l) 0 (litRows [[.i c]])) (encL encI (l ++ [c])) :=
 rowsEq_push rfl (by simp) (by simp only [rowEq, Kd.eqv, k1]; exact ⟨rfl, trivial⟩)
theorem swap_rows {l : List Int} {n i j : Nat} (hi : i < l.length) (hj : j < l.length) (hn : j < n) : RowsEq k1 n (setRow (setRow (encL encI l) i 0 [.i (l.getD j default)]) j 0 [.i (l.getD i default)]) (encL encI (swapL l i j)) :=
 rowsEq_setOf (xs := l.set i (l.getD j default)) (v := l.getD i default) (rows_setI hi) hn (by rw [List.length_set]; exact hj) (by simp only [rowEq, Kd.eqv, k1]; exact ⟨rfl, trivial⟩)
theorem half0 {i : Nat} (h : 0 < (i : Int)) : 0 + ((((i : Nat) : Int) - 1) / 2).toNat = (i - 1) / 2 := by omega
theorem up_step {l : List Int} {i : Nat} (h : 0 < i /\ l.getD i default < l.getD ((i - 1) / 2) default) : up l i = up (swapL l i ((i - 1) / 2)) ((i - 1) / 2) := by rw [up, dif_pos h]
theorem up_stop {l : List Int} {i : Nat} (h : ¬ (0 < i /\ l.getD i default < l.getD ((i - 1) / 2) default)) : up l i = l := by rw [up, dif_neg h]
set_option maxRecDepth 100000 in
theorem push_keeps : Keeps cfgN0 Try.f54 pushC pushI := Eq.mp (show ((∀ x1 : QX, ((x1.q.length < (1073741824 : Nat)/\(0 : Int) <= x1.d /\ x1.d <= (1125899906842624 : Int)/\(0 : Int) <= x1.v /\ x1.v < (4096 : Int))-> ((((-9223372036854775808 : Int) <= x1.d * 4096)/\(x1.d * 4096 <= (9223372036854775807 : Int)))/\((((-9223372036854775808 : Int) <= x1.d * 4096 + x1.v)/\(x1.d * 4096 + x1.v <= (9223372036854775807 : Int)))/\(((True/\True)/\True)/\((0=0/\((x1.q.length <= x1.q.length)/\(((1 : Nat) <= (1 : Nat))/\(x1.q.length + (1 : Nat) <= (1073741824 : Nat)))))/\((((-9223372036854775808 : Int) <= (↑(x1.q.length + (1 : Nat)) : Int) - 1)/\((↑(x1.q.length + (1 : Nat)) : Int) - 1 <= (9223372036854775807 : Int)))/\(∃ x3 : UpX, ((((x3.l.length = x1.q.length + (1 : Nat))/\((x3.i < x3.l.length)/\(up x3.l x3.i = pushF x1.q (x1.d * 4096 + x1.v))))/\((((↑(x1.q.length + (1 : Nat)) : Int) - 1 = (x3.i : Int))/\((0=0/\(x1.q.length + (1 : Nat) = x1.q.length + (1 : Nat)))/\((0=0 /\ 0=0)/\(((↑(x1.q.length + (1 : Nat)) : Int) - 1 = (↑(x1.q.length + (1 : Nat)) : Int) - 1)/\(((↑(x1.q.length + (1 : Nat)) : Int) = (↑(x1.q.length + (1 : Nat)) : Int))/\((0=0/\((1 : Nat) = (1 : Nat)))/\((x1.d * 4096 + x1.v = x1.d * 4096 + x1.v)/\(x1.v = x1.v/\((x1.d * 4096 = x1.d * 4096)/\(x1.d = x1.d/\((0=0 /\ x1.q.length = x1.q.length)/\((0=0 /\ 0=0)/\((0=0 /\ 0=0)/\(x1.d = x1.d/\(x1.v = x1.v/\True)))))))))))))))/\(((RLe (x1.q.length + (1 : Nat)) (x1.q.length + (1 : Nat)))/\(RowsEq [.int .i64] (x1.q.length + (1 : Nat)) (appRows x1.q.length (encL encI x1.q) 0 (litRows ((D.i (x1.d * 4096 + x1.v) :: @List.nil D) :: @List.nil (List D)))) (encL encI x3.l)))/\((True/\True)/\(True/\((RLe 1 1/\(RowsEq [.int .i64] 1 (litRows ((D.i (x1.d * 4096 + x1.v) :: @List.nil D) :: @List.nil (List D))) (litRows ((D.i (x1.d * 4096 + x1.v) :: @List.nil D) :: @List.nil (List D)))))/\True))))))/\(∀ x4 : UpX, ((x4.l.length = x1.q.length + (1 : Nat) /\ x4.i < x4.l.length /\ up x4.l x4.i = pushF x1.q (x1.d * 4096 + x1.v))-> (((decide (0 < (x4.i : Int)) = true)-> ((((0 : Int) <= (x4.i : Int))/\((x4.i : Int) < (↑(x1.q.length + (1 : Nat)) : Int)))/\((0 + Int.toNat (x4.i : Int) < x1.q.length + (1 : Nat))/\((((-9223372036854775808 : Int) <= (x4.i : Int) - 1)/\((x4.i : Int) - 1 <= (9223372036854775807 : Int)))/\((((0 : Int) <= (x4.i : Int) - 1)/\(((0 : Int) < 2)/\(((-9223372036854775808 : Int) <= ((x4.i : Int) - 1) / 2)/\(((x4.i : Int) - 1) / 2 <= (9223372036854775807 : Int)))))/\((((0 : Int) <= ((x4.i : Int) - 1) / 2)/\(((x4.i : Int) - 1) / 2 < (↑(x1.q.length + (1 : Nat)) : Int)))/\((0 + Int.toNat (((x4.i : Int) - 1) / 2) < x1.q.length + (1 : Nat))/\(((decide (x4.l.getD (0 + Int.toNat (x4.i : Int)) default < x4.l.getD (0 + Int.toNat (((x4.i : Int) - 1) / 2)) default) = true)-> ((((-9223372036854775808 : Int) <= (x4.i : Int) - 1)/\((x4.i : Int) - 1 <= (9223372036854775807 : Int)))/\((((0 : Int) <= (x4.i : Int) - 1)/\(((0 : Int) < 2)/\(((-9223372036854775808 : Int) <= ((x4.i : Int) - 1) / 2)/\(((x4.i : Int) - 1) / 2 <= (9223372036854775807 : Int)))))/\((((-9223372036854775808 : Int) <= (x4.i : Int) - 1)/\((x4.i : Int) - 1 <= (9223372036854775807 : Int)))/\((((0 : Int) <= (x4.i : Int) - 1)/\(((0 : Int) < 2)/\(((-9223372036854775808 : Int) <= ((x4.i : Int) - 1) / 2)/\(((x4.i : Int) - 1) / 2 <= (9223372036854775807 : Int)))))/\((((0 : Int) <= ((x4.i : Int) - 1) / 2)/\(((x4.i : Int) - 1) / 2 < (↑(x1.q.length + (1 : Nat)) : Int)))/\((0 + Int.toNat (((x4.i : Int) - 1) / 2) < x1.q.length + (1 : Nat))/\((((0 : Int) <= (x4.i : Int))/\((x4.i : Int) < (↑(x1.q.length + (1 : Nat)) : Int)))/\((0 + Int.toNat (x4.i : Int) < x1.q.length + (1 : Nat))/\((((0 : Int) <= (x4.i : Int))/\((x4.i : Int) < (↑(x1.q.length + (1 : Nat)) : Int)))/\(((0 + Int.toNat (x4.i : Int) < x1.q.length + (1 : Nat))/\(True/\True))/\((((0 : Int) <= ((x4.i : Int) - 1) / 2)/\(((x4.i : Int) - 1) / 2 < (↑(x1.q.length + (1 : Nat)) : Int)))/\(((0 + Int.toNat (((x4.i : Int) - 1) / 2) < x1.q.length + (1 : Nat))/\(True/\True))/\((((-9223372036854775808 : Int) <= (x4.i : Int) - 1)/\((x4.i : Int) - 1 <= (9223372036854775807 : Int)))/\((((0 : Int) <= (x4.i : Int) - 1)/\(((0 : Int) < 2)/\(((-9223372036854775808 : Int) <= ((x4.i : Int) - 1) / 2)/\(((x4.i : Int) - 1) / 2 <= (9223372036854775807 : Int)))))/\(∃ x8 : UpX, ((x8.i < x4.i)/\(((x8.l.length = x1.q.length + (1 : Nat))/\((x8.i < x8.l.length)/\(up x8.l x8.i = pushF x1.q (x1.d * 4096 + x1.v))))/\(((((x4.i : Int) - 1) / 2 = (x8.i : Int))/\((0=0/\(x1.q.length + (1 : Nat) = x1.q.length + (1 : Nat)))/\((0=0 /\ 0=0)/\(((↑(x1.q.length + (1 : Nat)) : Int) - 1 = (↑(x1.q.length + (1 : Nat)) : Int) - 1)/\(((↑(x1.q.length + (1 : Nat)) : Int) = (↑(x1.q.length + (1 : Nat)) : Int))/\((0=0/\((1 : Nat) = (1 : Nat)))/\((x1.d * 4096 + x1.v = x1.d * 4096 + x1.v)/\(x1.v = x1.v/\((x1.d * 4096 = x1.d * 4096)/\(x1.d = x1.d/\((0=0 /\ x1.q.length = x1.q.length)/\((0=0 /\ 0=0)/\((0=0 /\ 0=0)/\(x1.d = x1.d/\(x1.v = x1.v/\True)))))))))))))))/\(((RLe (x1.q.length + (1 : Nat)) (x1.q.length + (1 : Nat)))/\(RowsEq [.int .i64] (x1.q.length + (1 : Nat)) (setRow (setRow (encL encI x4.l) (0 + Int.toNat (x4.i : Int)) 0 (D.i (x4.l.getD (0 + Int.toNat (((x4.i : Int) - 1) / 2)) default) :: @List.nil D)) (0 + Int.toNat (((x4.i : Int) - 1) / 2)) 0 (D.i (x4.l.getD (0 + Int.toNat (x4.i : Int)) default) :: @List.nil D)) (encL encI x8.l)))/\((True/\True)/\(True/\((RLe 1 1/\(RowsEq [.int .i64] 1 (litRows ((D.i (x1.d * 4096 + x1.v) :: @List.nil D) :: @List.nil (List D))) (litRows ((D.i (x1.d * 4096 + x1.v) :: @List.nil D) :: @List.nil (List D)))))/\True)))))))))))))))))))))))/\((decide (x4.l.getD (0 + Int.toNat (x4.i : Int)) default < x4.l.getD (0 + Int.toNat (((x4.i : Int) - 1) / 2)) default) = false)-> (True/\(((0=0/\(x1.q.length + (1 : Nat) = x1.q.length + (1 : Nat)))/\True)/\(True/\(((RLe (x1.q.length + (1 : Nat)) (x1.q.length + (1 : Nat)))/\(RowsEq [.int .i64] (x1.q.length + (1 : Nat)) (encL encI x4.l) (encL encI (pushF x1.q (x1.d * 4096 + x1.v)))))/\True)))))))))))))/\((decide (0 < (x4.i : Int)) = false)-> (True/\(((0=0/\(x1.q.length + (1 : Nat) = x1.q.length + (1 : Nat)))/\True)/\(True/\(((RLe (x1.q.length + (1 : Nat)) (x1.q.length + (1 : Nat)))/\(RowsEq [.int .i64] (x1.q.length + (1 : Nat)) (encL encI x4.l) (encL encI (pushF x1.q (x1.d * 4096 + x1.v)))))/\True)))))))))))))))))) = (Keeps cfgN0 Try.f54 pushC pushI) by kernel_rfl) (fun x1 => fun h2 => ⟨⟨(by omega),
(by omega)⟩,
⟨(by omega),
(by omega)⟩,
⟨⟨trivial,trivial⟩,trivial⟩,
⟨rfl,
(by omega),
(by omega),
(by omega)⟩,
⟨(by omega),
(by omega)⟩,
({ l := QX.q x1 ++ (QX.d x1 * (4096 : Int) + QX.v x1) :: @List.nil Int, i := List.length (QX.q x1) : UpX }),
⟨⟨(by (try dsimp only at *); grind),
(by (try dsimp only at *); grind),
(by
       rfl)⟩,
⟨(by (try dsimp only at *); omega),
⟨rfl,rfl⟩,
⟨rfl,rfl⟩,rfl,rfl,
⟨rfl,rfl⟩,rfl,rfl,rfl,rfl,
⟨rfl,rfl⟩,
⟨rfl,rfl⟩,
⟨rfl,rfl⟩,rfl,rfl,trivial⟩,
⟨⟨Nat.le_refl _⟩,
(by
       exact push_rows)⟩,
⟨trivial,trivial⟩,trivial,
⟨⟨Nat.le_refl _⟩,RowsEq.rfl'⟩,trivial⟩,
fun x4 => fun h5 => ⟨fun g6 => have h6 := of_decide_eq_true g6; ⟨⟨(by (try dsimp only at *); omega),
(by (try dsimp only at *); omega)⟩,
(by (try dsimp only at *); omega),
⟨(by (try dsimp only at *); omega),
(by (try dsimp only at *); omega)⟩,
⟨(by (try dsimp only at *); omega),
(by (try dsimp only at *); omega),
(by (try dsimp only at *); omega),
(by (try dsimp only at *); omega)⟩,
⟨(by (try dsimp only at *); omega),
(by (try dsimp only at *); omega)⟩,
(by (try dsimp only at *); omega),
fun g7 => have h7 := of_decide_eq_true g7; ⟨⟨(by (try dsimp only at *); omega),
(by (try dsimp only at *); omega)⟩,
⟨(by (try dsimp only at *); omega),
(by (try dsimp only at *); omega),
(by (try dsimp only at *); omega),
(by (try dsimp only at *); omega)⟩,
⟨(by (try dsimp only at *); omega),
(by (try dsimp only at *); omega)⟩,
⟨(by (try dsimp only at *); omega),
(by (try dsimp only at *); omega),
(by (try dsimp only at *); omega),
(by (try dsimp only at *); omega)⟩,
⟨(by (try dsimp only at *); omega),
(by (try dsimp only at *); omega)⟩,
(by (try dsimp only at *); omega),
⟨(by (try dsimp only at *); omega),
(by (try dsimp only at *); omega)⟩,
(by (try dsimp only at *); omega),
⟨(by (try dsimp only at *); omega),
(by (try dsimp only at *); omega)⟩,
⟨(by (try dsimp only at *); omega),trivial,trivial⟩,
⟨(by (try dsimp only at *); omega),
(by (try dsimp only at *); omega)⟩,
⟨(by (try dsimp only at *); omega),trivial,trivial⟩,
⟨(by (try dsimp only at *); omega),
(by (try dsimp only at *); omega)⟩,
⟨(by (try dsimp only at *); omega),
(by (try dsimp only at *); omega),
(by (try dsimp only at *); omega),
(by (try dsimp only at *); omega)⟩,
({ l := swapL (UpX.l x4) (UpX.i x4) ((UpX.i x4 - (1 : Nat)) / (2 : Nat)), i := (UpX.i x4 - (1 : Nat)) / (2 : Nat) : UpX }),
(by (try dsimp only at *); omega),
⟨(by
       (show _; simp only [swapL_len]; omega)),
(by
       (show _; simp only [swapL_len]; omega)),
(by
       (rw [half0 h6, nat0] at h7; rw [<- h5.2.2, up_step ⟨by omega, h7⟩]))⟩,
⟨(by (try dsimp only at *); omega),
⟨rfl,rfl⟩,
⟨rfl,rfl⟩,rfl,rfl,
⟨rfl,rfl⟩,rfl,rfl,rfl,rfl,
⟨rfl,rfl⟩,
⟨rfl,rfl⟩,
⟨rfl,rfl⟩,rfl,rfl,trivial⟩,
⟨⟨Nat.le_refl _⟩,
(by
       (rw [half0 h6, nat0]; exact swap_rows (by omega) (by omega) (by omega)))⟩,
⟨trivial,trivial⟩,trivial,
⟨⟨Nat.le_refl _⟩,RowsEq.rfl'⟩,trivial⟩,
fun g9 => have h9 := of_decide_eq_false g9; ⟨trivial,
⟨⟨rfl,rfl⟩,trivial⟩,trivial,
⟨⟨Nat.le_refl _⟩,
(by
       (rw [half0 h6, nat0] at h9; rw [<- h5.2.2, up_stop (fun h => h9 h.2)]; exact RowsEq.rfl'))⟩,trivial⟩⟩,
fun g10 => have h10 := of_decide_eq_false g10; ⟨trivial,
⟨⟨rfl,rfl⟩,trivial⟩,trivial,
⟨⟨Nat.le_refl _⟩,
(by
       (rw [<- h5.2.2, up_stop (fun h => h10 (by omega))]; exact RowsEq.rfl'))⟩,trivial⟩⟩⟩)
theorem push_good : Good Try.prog 54 pushC /\ FnOk Try.prog 54 := good_of tok conN0 (fn := Try.f54) rfl (by decide +kernel) (fun _ => rfl) push_keeps
def kid (l : List Int) (i n : Nat) : Nat := if 2 * i + 2 < n /\ l.getD (2 * i + 2) default < l.getD (2 * i + 1) default then 2 * i + 2 else 2 * i + 1
theorem kid_gt (l : List Int) (i n : Nat) : i < kid l i n := by unfold kid; split <;> omega
theorem kid_lt {l : List Int} {i n : Nat} (h : 2 * i + 1 < n) : kid l i n < n := by unfold kid; split <;> omega
def down (l : List Int) (i n : Nat) : List Int :=
 if h : 2 * i + 1 < n /\ l.getD (kid l i n) default < l.getD i default then down (swapL l i (kid l i n)) (kid l i n) n else l
termination_by n - i
decreasing_by have := kid_gt l i n; omega
def popF (q : List Int) : List Int := (down (q.set 0 (q.getD (q.length - 1) default)) 0 (q.length - 1)).take (q.length - 1)
theorem down_len (l : List Int) (i n : Nat) : (down l i n).length = l.length := by
 induction l, i using down.induct n with
 | case1 l i h ih => rw [down, dif_pos h, ih, swapL_len]
 | case2 l i h => rw [down, dif_neg h]
theorem popF_len (q : List Int) : (popF q).length = q.length - 1 := by
 unfold popF; rw [List.length_take, down_len, List.length_set]; omega
theorem down_step {l : List Int} {i n : Nat} (h : 2 * i + 1 < n /\ l.getD (kid l i n) default < l.getD i default) : down l i n = down (swapL l i (kid l i n)) (kid l i n) n := by rw [down, dif_pos h]
theorem down_stop {l : List Int} {i n : Nat} (h : ¬ (2 * i + 1 < n /\ l.getD (kid l i n) default < l.getD i default)) : down l i n = l := by rw [down, dif_neg h]
def popC : CT where
 X := List Int
 pre := fun q => 1 <= q.length /\ q.length <= 1073741824 /\ 0 <= q.getD 0 default /\ q.getD 0 default <= 9223372036854775807
 args := fun q => [.p 100000 0 0]
 g0 := fun q => [(100000, .one .own [.sl 100001 0 q.length]), (100001, .rows .own k1 q.length (encL encI q))]
 res := fun q => .tup [.i .i64 (q.getD 0 default / 4096), .i .i64 (q.getD 0 default % 4096)]
 g1 := fun q => [(100000, .one .own [.sl 100001 0 (q.length - 1)]), (100001, .rows .own k1 (q.length - 1) (encL encI (popF q)))]
def popI (q : List Int) (id : Nat) : Option Inv := match id with
 | 0 => some { X := UpX, ok := fun u => u.l.length = q.length /\ (u.i < q.length) /\ down u.l u.i (q.length - 1) = down (q.set 0 (q.getD (q.length - 1) default)) 0 (q.length - 1),
               fr := fun u => [(7, .i .i64 u.i), (4, .sl 100001 0 (q.length - 1)), (0, .p 100000 0 0)], hp := fun u => [(100001, .rows .own k1 q.length (encL encI u.l)), (100000, .one .own [.sl 100001 0 q.length])], me := fun u => q.length - u.i }
 | _ => none
theorem ix1 (i : Nat) : 0 + (2 * ((i : Nat) : Int) + 1).toNat = 2 * i + 1 := by omega
theorem ix2 (i : Nat) : 0 + (2 * ((i : Nat) : Int) + 1 + 1).toNat = 2 * i + 2 := by omega
theorem ix3 {n : Nat} (h : 1 <= n) : 0 + (((n : Nat) : Int) - 1).toNat = n - 1 := by omega
theorem kid2 {l : List Int} {i n : Nat} (h1 : 2 * i + 2 < n) (h2 : l.getD (2 * i + 2) default < l.getD (2 * i + 1) default) : kid l i n = 2 * i + 2 := if_pos ⟨h1, h2⟩
theorem kid1 {l : List Int} {i n : Nat} (h : ¬ (2 * i + 2 < n /\ l.getD (2 * i + 2) default < l.getD (2 * i + 1) default)) : kid l i n = 2 * i + 1 := if_neg h
theorem rows_take {l : List Int} {m : Nat} : RowsEq k1 m (encL encI l) (encL encI (l.take m)) := ⟨fun r hr => rowEq_of_eq (by
 unfold encL
 rw [List.getD_eq_getElem?_getD, List.getD_eq_getElem?_getD, List.getElem?_take, if_pos hr])⟩
theorem pop_rows {q l : List Int} {i : Nat} (h : down l i (q.length - 1) = down (q.set 0 (q.getD (q.length - 1) default)) 0 (q.length - 1)) (hs : ¬ (2 * i + 1 < q.length - 1 /\ l.getD (kid l i (q.length - 1)) default < l.getD i default)) :
  RowsEq k1 (q.length - 1) (encL encI l) (encL encI (popF q)) := by
 unfold popF
 rw [<- h, down_stop hs]
 exact rows_take
set_option maxRecDepth 100000 in
theorem pop_keeps : Keeps cfgN0 Try.f57 popC popI := Eq.mp (show ((∀ x1 : List Int, (((1 : Nat) <= x1.length /\ x1.length <= (1073741824 : Nat)/\(0 : Int) <= x1.getD 0 default /\ x1.getD 0 default <= (9223372036854775807 : Int))-> ((((0 : Int) <= (0 : Int))/\(0 < (x1.length : Int)))/\((0 + Int.toNat 0 < x1.length)/\((((-9223372036854775808 : Int) <= (x1.length : Int) - 1)/\((x1.length : Int) - 1 <= (9223372036854775807 : Int)))/\((((0 : Int) <= (x1.length : Int) - 1)/\((x1.length : Int) - 1 < (x1.length : Int)))/\((0 + Int.toNat ((x1.length : Int) - 1) < x1.length)/\((((0 : Int) <= (0 : Int))/\(0 < (x1.length : Int)))/\(((0 + Int.toNat 0 < x1.length)/\(True/\True))/\((((0 : Int) <= (0 : Int))/\(((0 : Int) <= (x1.length : Int) - 1)/\((x1.length : Int) - 1 <= (x1.length : Int))))/\(∃ x3 : UpX, (((x3.l.length = x1.length/\((x3.i < x1.length)/\(down x3.l x3.i (x1.length - (1 : Nat)) = down (x1.set 0 (x1.getD (x1.length - (1 : Nat)) default)) 0 (x1.length - (1 : Nat)))))/\(((0 = (x3.i : Int))/\(((0 + Int.toNat (0 : Int) = (0 : Nat))/\(Int.toNat ((x1.length : Int) - 1) - Int.toNat 0 = x1.length - (1 : Nat)))/\((0=0 /\ 0=0)/\(((0 + Int.toNat (0 : Int) = 0 + Int.toNat (0 : Int))/\(Int.toNat ((x1.length : Int) - 1) - Int.toNat (0 : Int) = Int.toNat ((x1.length : Int) - 1) - Int.toNat (0 : Int)))/\(((x1.length : Int) - 1 = (x1.length : Int) - 1)/\((0=0 /\ x1.length = x1.length)/\(((0 + Int.toNat (0 : Int) = 0 + Int.toNat (0 : Int)) /\ 0=0)/\((x1.getD (0 + Int.toNat ((x1.length : Int) - 1)) default = x1.getD (0 + Int.toNat ((x1.length : Int) - 1)) default)/\(((0 + Int.toNat ((x1.length : Int) - 1) = 0 + Int.toNat ((x1.length : Int) - 1)) /\ 0=0)/\(((x1.length : Int) - 1 = (x1.length : Int) - 1)/\((0=0 /\ x1.length = x1.length)/\((0=0 /\ x1.length = x1.length)/\(((x1.length : Int) - 1 = (x1.length : Int) - 1)/\((x1.getD (0 + Int.toNat (0 : Int)) default = x1.getD (0 + Int.toNat (0 : Int)) default)/\(((x1.length : Int) - 1 = (x1.length : Int) - 1)/\(((x1.length : Int) = (x1.length : Int))/\((0=0 /\ x1.length = x1.length)/\((x1.getD (0 + Int.toNat (0 : Int)) default = x1.getD (0 + Int.toNat (0 : Int)) default)/\(((0 + Int.toNat (0 : Int) = 0 + Int.toNat (0 : Int)) /\ 0=0)/\((0=0 /\ x1.length = x1.length)/\((0=0 /\ x1.length = x1.length)/\((0=0 /\ 0=0)/\((0=0 /\ 0=0)/\(((0 : Int) = 0)/\(((0 : Int) = 0)/\True)))))))))))))))))))))))))/\(((RLe x1.length x1.length)/\(RowsEq [.int .i64] x1.length (setRow (encL encI x1) (0 + Int.toNat (0 : Int)) 0 (D.i (x1.getD (0 + Int.toNat ((x1.length : Int) - 1)) default) :: @List.nil D)) (encL encI x3.l)))/\(((0=0 /\ x1.length = x1.length)/\True)/\True))))/\(∀ x4 : UpX, ((x4.l.length = x1.length /\ x4.i < x1.length /\ down x4.l x4.i (x1.length - (1 : Nat)) = down (x1.set 0 (x1.getD (x1.length - (1 : Nat)) default)) 0 (x1.length - (1 : Nat)))-> ((((-9223372036854775808 : Int) <= (2 : Int) * (x4.i : Int))/\((2 : Int) * (x4.i : Int) <= (9223372036854775807 : Int)))/\((((-9223372036854775808 : Int) <= (2 : Int) * (x4.i : Int) + 1)/\((2 : Int) * (x4.i : Int) + 1 <= (9223372036854775807 : Int)))/\(((decide ((↑(x1.length - (1 : Nat)) : Int) <= (2 : Int) * (x4.i : Int) + 1) = true)-> ((((0 : Int) <= x1.getD (0 + Int.toNat (0 : Int)) default)/\(((0 : Int) < 4096)/\(((-9223372036854775808 : Int) <= x1.getD (0 + Int.toNat (0 : Int)) default / 4096)/\(x1.getD (0 + Int.toNat (0 : Int)) default / 4096 <= (9223372036854775807 : Int)))))/\((((0 : Int) <= x1.getD (0 + Int.toNat (0 : Int)) default)/\((0 : Int) < 4096))/\(((x1.getD (0 + Int.toNat (0 : Int)) default / 4096 = x1.getD 0 default / 4096)/\((x1.getD (0 + Int.toNat (0 : Int)) default % 4096 = x1.getD 0 default % 4096)/\True))/\(((0=0/\(x1.length - (1 : Nat) = x1.length - (1 : Nat)))/\True)/\(((RLe (x1.length - (1 : Nat)) x1.length)/\(RowsEq [.int .i64] (x1.length - (1 : Nat)) (encL encI x4.l) (encL encI (popF x1))))/\True))))))/\((decide ((↑(x1.length - (1 : Nat)) : Int) <= (2 : Int) * (x4.i : Int) + 1) = false)-> ((((-9223372036854775808 : Int) <= (2 : Int) * (x4.i : Int) + 1 + 1)/\((2 : Int) * (x4.i : Int) + 1 + 1 <= (9223372036854775807 : Int)))/\(((decide ((2 : Int) * (x4.i : Int) + 1 + 1 < (↑(x1.length - (1 : Nat)) : Int)) = true)-> ((((-9223372036854775808 : Int) <= (2 : Int) * (x4.i : Int) + 1 + 1)/\((2 : Int) * (x4.i : Int) + 1 + 1 <= (9223372036854775807 : Int)))/\((((0 : Int) <= (2 : Int) * (x4.i : Int) + 1 + 1)/\((2 : Int) * (x4.i : Int) + 1 + 1 < (↑(x1.length - (1 : Nat)) : Int)))/\((0 + Int.toNat ((2 : Int) * (x4.i : Int) + 1 + 1) < x1.length)/\((((0 : Int) <= (2 : Int) * (x4.i : Int) + 1)/\((2 : Int) * (x4.i : Int) + 1 < (↑(x1.length - (1 : Nat)) : Int)))/\((0 + Int.toNat ((2 : Int) * (x4.i : Int) + 1) < x1.length)/\(((decide (x4.l.getD (0 + Int.toNat ((2 : Int) * (x4.i : Int) + 1 + 1)) default < x4.l.getD (0 + Int.toNat ((2 : Int) * (x4.i : Int) + 1)) default) = true)-> ((((-9223372036854775808 : Int) <= (2 : Int) * (x4.i : Int) + 1 + 1)/\((2 : Int) * (x4.i : Int) + 1 + 1 <= (9223372036854775807 : Int)))/\((((0 : Int) <= (x4.i : Int))/\((x4.i : Int) < (↑(x1.length - (1 : Nat)) : Int)))/\((0 + Int.toNat (x4.i : Int) < x1.length)/\((((0 : Int) <= (2 : Int) * (x4.i : Int) + 1 + 1)/\((2 : Int) * (x4.i : Int) + 1 + 1 < (↑(x1.length - (1 : Nat)) : Int)))/\((0 + Int.toNat ((2 : Int) * (x4.i : Int) + 1 + 1) < x1.length)/\(((decide (x4.l.getD (0 + Int.toNat (x4.i : Int)) default <= x4.l.getD (0 + Int.toNat ((2 : Int) * (x4.i : Int) + 1 + 1)) default) = true)-> ((((0 : Int) <= x1.getD (0 + Int.toNat (0 : Int)) default)/\(((0 : Int) < 4096)/\(((-9223372036854775808 : Int) <= x1.getD (0 + Int.toNat (0 : Int)) default / 4096)/\(x1.getD (0 + Int.toNat (0 : Int)) default / 4096 <= (9223372036854775807 : Int)))))/\((((0 : Int) <= x1.getD (0 + Int.toNat (0 : Int)) default)/\((0 : Int) < 4096))/\(((x1.getD (0 + Int.toNat (0 : Int)) default / 4096 = x1.getD 0 default / 4096)/\((x1.getD (0 + Int.toNat (0 : Int)) default % 4096 = x1.getD 0 default % 4096)/\True))/\(((0=0/\(x1.length - (1 : Nat) = x1.length - (1 : Nat)))/\True)/\(((RLe (x1.length - (1 : Nat)) x1.length)/\(RowsEq [.int .i64] (x1.length - (1 : Nat)) (encL encI x4.l) (encL encI (popF x1))))/\True))))))/\((decide (x4.l.getD (0 + Int.toNat (x4.i : Int)) default <= x4.l.getD (0 + Int.toNat ((2 : Int) * (x4.i : Int) + 1 + 1)) default) = false)-> ((((0 : Int) <= (2 : Int) * (x4.i : Int) + 1 + 1)/\((2 : Int) * (x4.i : Int) + 1 + 1 < (↑(x1.length - (1 : Nat)) : Int)))/\((0 + Int.toNat ((2 : Int) * (x4.i : Int) + 1 + 1) < x1.length)/\((((0 : Int) <= (x4.i : Int))/\((x4.i : Int) < (↑(x1.length - (1 : Nat)) : Int)))/\((0 + Int.toNat (x4.i : Int) < x1.length)/\((((0 : Int) <= (x4.i : Int))/\((x4.i : Int) < (↑(x1.length - (1 : Nat)) : Int)))/\(((0 + Int.toNat (x4.i : Int) < x1.length)/\(True/\True))/\((((0 : Int) <= (2 : Int) * (x4.i : Int) + 1 + 1)/\((2 : Int) * (x4.i : Int) + 1 + 1 < (↑(x1.length - (1 : Nat)) : Int)))/\(((0 + Int.toNat ((2 : Int) * (x4.i : Int) + 1 + 1) < x1.length)/\(True/\True))/\(∃ x12 : UpX, ((x1.length - x12.i < x1.length - x4.i)/\((x12.l.length = x1.length/\((x12.i < x1.length)/\(down x12.l x12.i (x1.length - (1 : Nat)) = down (x1.set 0 (x1.getD (x1.length - (1 : Nat)) default)) 0 (x1.length - (1 : Nat)))))/\((((2 : Int) * (x4.i : Int) + 1 + 1 = (x12.i : Int))/\((0=0/\(x1.length - (1 : Nat) = x1.length - (1 : Nat)))/\((0=0 /\ 0=0)/\(((0 + Int.toNat (0 : Int) = 0 + Int.toNat (0 : Int))/\(Int.toNat ((x1.length : Int) - 1) - Int.toNat (0 : Int) = Int.toNat ((x1.length : Int) - 1) - Int.toNat (0 : Int)))/\(((x1.length : Int) - 1 = (x1.length : Int) - 1)/\((0=0 /\ x1.length = x1.length)/\(((0 + Int.toNat (0 : Int) = 0 + Int.toNat (0 : Int)) /\ 0=0)/\((x1.getD (0 + Int.toNat ((x1.length : Int) - 1)) default = x1.getD (0 + Int.toNat ((x1.length : Int) - 1)) default)/\(((0 + Int.toNat ((x1.length : Int) - 1) = 0 + Int.toNat ((x1.length : Int) - 1)) /\ 0=0)/\(((x1.length : Int) - 1 = (x1.length : Int) - 1)/\((0=0 /\ x1.length = x1.length)/\((0=0 /\ x1.length = x1.length)/\(((x1.length : Int) - 1 = (x1.length : Int) - 1)/\((x1.getD (0 + Int.toNat (0 : Int)) default = x1.getD (0 + Int.toNat (0 : Int)) default)/\(((x1.length : Int) - 1 = (x1.length : Int) - 1)/\(((x1.length : Int) = (x1.length : Int))/\((0=0 /\ x1.length = x1.length)/\((x1.getD (0 + Int.toNat (0 : Int)) default = x1.getD (0 + Int.toNat (0 : Int)) default)/\(((0 + Int.toNat (0 : Int) = 0 + Int.toNat (0 : Int)) /\ 0=0)/\((0=0 /\ x1.length = x1.length)/\((0=0 /\ x1.length = x1.length)/\((0=0 /\ 0=0)/\((0=0 /\ 0=0)/\(((0 : Int) = 0)/\(((0 : Int) = 0)/\True)))))))))))))))))))))))))/\(((RLe x1.length x1.length)/\(RowsEq [.int .i64] x1.length (setRow (setRow (encL encI x4.l) (0 + Int.toNat (x4.i : Int)) 0 (D.i (x4.l.getD (0 + Int.toNat ((2 : Int) * (x4.i : Int) + 1 + 1)) default) :: @List.nil D)) (0 + Int.toNat ((2 : Int) * (x4.i : Int) + 1 + 1)) 0 (D.i (x4.l.getD (0 + Int.toNat (x4.i : Int)) default) :: @List.nil D)) (encL encI x12.l)))/\(((0=0 /\ x1.length = x1.length)/\True)/\True))))))))))))))))))))))/\((decide (x4.l.getD (0 + Int.toNat ((2 : Int) * (x4.i : Int) + 1 + 1)) default < x4.l.getD (0 + Int.toNat ((2 : Int) * (x4.i : Int) + 1)) default) = false)-> ((((0 : Int) <= (x4.i : Int))/\((x4.i : Int) < (↑(x1.length - (1 : Nat)) : Int)))/\((0 + Int.toNat (x4.i : Int) < x1.length)/\((((0 : Int) <= (2 : Int) * (x4.i : Int) + 1)/\((2 : Int) * (x4.i : Int) + 1 < (↑(x1.length - (1 : Nat)) : Int)))/\((0 + Int.toNat ((2 : Int) * (x4.i : Int) + 1) < x1.length)/\(((decide (x4.l.getD (0 + Int.toNat (x4.i : Int)) default <= x4.l.getD (0 + Int.toNat ((2 : Int) * (x4.i : Int) + 1)) default) = true)-> ((((0 : Int) <= x1.getD (0 + Int.toNat (0 : Int)) default)/\(((0 : Int) < 4096)/\(((-9223372036854775808 : Int) <= x1.getD (0 + Int.toNat (0 : Int)) default / 4096)/\(x1.getD (0 + Int.toNat (0 : Int)) default / 4096 <= (9223372036854775807 : Int)))))/\((((0 : Int) <= x1.getD (0 + Int.toNat (0 : Int)) default)/\((0 : Int) < 4096))/\(((x1.getD (0 + Int.toNat (0 : Int)) default / 4096 = x1.getD 0 default / 4096)/\((x1.getD (0 + Int.toNat (0 : Int)) default % 4096 = x1.getD 0 default % 4096)/\True))/\(((0=0/\(x1.length - (1 : Nat) = x1.length - (1 : Nat)))/\True)/\(((RLe (x1.length - (1 : Nat)) x1.length)/\(RowsEq [.int .i64] (x1.length - (1 : Nat)) (encL encI x4.l) (encL encI (popF x1))))/\True))))))/\((decide (x4.l.getD (0 + Int.toNat (x4.i : Int)) default <= x4.l.getD (0 + Int.toNat ((2 : Int) * (x4.i : Int) + 1)) default) = false)-> ((((0 : Int) <= (2 : Int) * (x4.i : Int) + 1)/\((2 : Int) * (x4.i : Int) + 1 < (↑(x1.length - (1 : Nat)) : Int)))/\((0 + Int.toNat ((2 : Int) * (x4.i : Int) + 1) < x1.length)/\((((0 : Int) <= (x4.i : Int))/\((x4.i : Int) < (↑(x1.length - (1 : Nat)) : Int)))/\((0 + Int.toNat (x4.i : Int) < x1.length)/\((((0 : Int) <= (x4.i : Int))/\((x4.i : Int) < (↑(x1.length - (1 : Nat)) : Int)))/\(((0 + Int.toNat (x4.i : Int) < x1.length)/\(True/\True))/\((((0 : Int) <= (2 : Int) * (x4.i : Int) + 1)/\((2 : Int) * (x4.i : Int) + 1 < (↑(x1.length - (1 : Nat)) : Int)))/\(((0 + Int.toNat ((2 : Int) * (x4.i : Int) + 1) < x1.length)/\(True/\True))/\(∃ x16 : UpX, ((x1.length - x16.i < x1.length - x4.i)/\((x16.l.length = x1.length/\((x16.i < x1.length)/\(down x16.l x16.i (x1.length - (1 : Nat)) = down (x1.set 0 (x1.getD (x1.length - (1 : Nat)) default)) 0 (x1.length - (1 : Nat)))))/\((((2 : Int) * (x4.i : Int) + 1 = (x16.i : Int))/\((0=0/\(x1.length - (1 : Nat) = x1.length - (1 : Nat)))/\((0=0 /\ 0=0)/\(((0 + Int.toNat (0 : Int) = 0 + Int.toNat (0 : Int))/\(Int.toNat ((x1.length : Int) - 1) - Int.toNat (0 : Int) = Int.toNat ((x1.length : Int) - 1) - Int.toNat (0 : Int)))/\(((x1.length : Int) - 1 = (x1.length : Int) - 1)/\((0=0 /\ x1.length = x1.length)/\(((0 + Int.toNat (0 : Int) = 0 + Int.toNat (0 : Int)) /\ 0=0)/\((x1.getD (0 + Int.toNat ((x1.length : Int) - 1)) default = x1.getD (0 + Int.toNat ((x1.length : Int) - 1)) default)/\(((0 + Int.toNat ((x1.length : Int) - 1) = 0 + Int.toNat ((x1.length : Int) - 1)) /\ 0=0)/\(((x1.length : Int) - 1 = (x1.length : Int) - 1)/\((0=0 /\ x1.length = x1.length)/\((0=0 /\ x1.length = x1.length)/\(((x1.length : Int) - 1 = (x1.length : Int) - 1)/\((x1.getD (0 + Int.toNat (0 : Int)) default = x1.getD (0 + Int.toNat (0 : Int)) default)/\(((x1.length : Int) - 1 = (x1.length : Int) - 1)/\(((x1.length : Int) = (x1.length : Int))/\((0=0 /\ x1.length = x1.length)/\((x1.getD (0 + Int.toNat (0 : Int)) default = x1.getD (0 + Int.toNat (0 : Int)) default)/\(((0 + Int.toNat (0 : Int) = 0 + Int.toNat (0 : Int)) /\ 0=0)/\((0=0 /\ x1.length = x1.length)/\((0=0 /\ x1.length = x1.length)/\((0=0 /\ 0=0)/\((0=0 /\ 0=0)/\(((0 : Int) = 0)/\(((0 : Int) = 0)/\True)))))))))))))))))))))))))/\(((RLe x1.length x1.length)/\(RowsEq [.int .i64] x1.length (setRow (setRow (encL encI x4.l) (0 + Int.toNat (x4.i : Int)) 0 (D.i (x4.l.getD (0 + Int.toNat ((2 : Int) * (x4.i : Int) + 1)) default) :: @List.nil D)) (0 + Int.toNat ((2 : Int) * (x4.i : Int) + 1)) 0 (D.i (x4.l.getD (0 + Int.toNat (x4.i : Int)) default) :: @List.nil D)) (encL encI x16.l)))/\(((0=0 /\ x1.length = x1.length)/\True)/\True))))))))))))))))))))))))))))/\((decide ((2 : Int) * (x4.i : Int) + 1 + 1 < (↑(x1.length - (1 : Nat)) : Int)) = false)-> ((((0 : Int) <= (x4.i : Int))/\((x4.i : Int) < (↑(x1.length - (1 : Nat)) : Int)))/\((0 + Int.toNat (x4.i : Int) < x1.length)/\((((0 : Int) <= (2 : Int) * (x4.i : Int) + 1)/\((2 : Int) * (x4.i : Int) + 1 < (↑(x1.length - (1 : Nat)) : Int)))/\((0 + Int.toNat ((2 : Int) * (x4.i : Int) + 1) < x1.length)/\(((decide (x4.l.getD (0 + Int.toNat (x4.i : Int)) default <= x4.l.getD (0 + Int.toNat ((2 : Int) * (x4.i : Int) + 1)) default) = true)-> ((((0 : Int) <= x1.getD (0 + Int.toNat (0 : Int)) default)/\(((0 : Int) < 4096)/\(((-9223372036854775808 : Int) <= x1.getD (0 + Int.toNat (0 : Int)) default / 4096)/\(x1.getD (0 + Int.toNat (0 : Int)) default / 4096 <= (9223372036854775807 : Int)))))/\((((0 : Int) <= x1.getD (0 + Int.toNat (0 : Int)) default)/\((0 : Int) < 4096))/\(((x1.getD (0 + Int.toNat (0 : Int)) default / 4096 = x1.getD 0 default / 4096)/\((x1.getD (0 + Int.toNat (0 : Int)) default % 4096 = x1.getD 0 default % 4096)/\True))/\(((0=0/\(x1.length - (1 : Nat) = x1.length - (1 : Nat)))/\True)/\(((RLe (x1.length - (1 : Nat)) x1.length)/\(RowsEq [.int .i64] (x1.length - (1 : Nat)) (encL encI x4.l) (encL encI (popF x1))))/\True))))))/\((decide (x4.l.getD (0 + Int.toNat (x4.i : Int)) default <= x4.l.getD (0 + Int.toNat ((2 : Int) * (x4.i : Int) + 1)) default) = false)-> ((((0 : Int) <= (2 : Int) * (x4.i : Int) + 1)/\((2 : Int) * (x4.i : Int) + 1 < (↑(x1.length - (1 : Nat)) : Int)))/\((0 + Int.toNat ((2 : Int) * (x4.i : Int) + 1) < x1.length)/\((((0 : Int) <= (x4.i : Int))/\((x4.i : Int) < (↑(x1.length - (1 : Nat)) : Int)))/\((0 + Int.toNat (x4.i : Int) < x1.length)/\((((0 : Int) <= (x4.i : Int))/\((x4.i : Int) < (↑(x1.length - (1 : Nat)) : Int)))/\(((0 + Int.toNat (x4.i : Int) < x1.length)/\(True/\True))/\((((0 : Int) <= (2 : Int) * (x4.i : Int) + 1)/\((2 : Int) * (x4.i : Int) + 1 < (↑(x1.length - (1 : Nat)) : Int)))/\(((0 + Int.toNat ((2 : Int) * (x4.i : Int) + 1) < x1.length)/\(True/\True))/\(∃ x20 : UpX, ((x1.length - x20.i < x1.length - x4.i)/\((x20.l.length = x1.length/\((x20.i < x1.length)/\(down x20.l x20.i (x1.length - (1 : Nat)) = down (x1.set 0 (x1.getD (x1.length - (1 : Nat)) default)) 0 (x1.length - (1 : Nat)))))/\((((2 : Int) * (x4.i : Int) + 1 = (x20.i : Int))/\((0=0/\(x1.length - (1 : Nat) = x1.length - (1 : Nat)))/\((0=0 /\ 0=0)/\(((0 + Int.toNat (0 : Int) = 0 + Int.toNat (0 : Int))/\(Int.toNat ((x1.length : Int) - 1) - Int.toNat (0 : Int) = Int.toNat ((x1.length : Int) - 1) - Int.toNat (0 : Int)))/\(((x1.length : Int) - 1 = (x1.length : Int) - 1)/\((0=0 /\ x1.length = x1.length)/\(((0 + Int.toNat (0 : Int) = 0 + Int.toNat (0 : Int)) /\ 0=0)/\((x1.getD (0 + Int.toNat ((x1.length : Int) - 1)) default = x1.getD (0 + Int.toNat ((x1.length : Int) - 1)) default)/\(((0 + Int.toNat ((x1.length : Int) - 1) = 0 + Int.toNat ((x1.length : Int) - 1)) /\ 0=0)/\(((x1.length : Int) - 1 = (x1.length : Int) - 1)/\((0=0 /\ x1.length = x1.length)/\((0=0 /\ x1.length = x1.length)/\(((x1.length : Int) - 1 = (x1.length : Int) - 1)/\((x1.getD (0 + Int.toNat (0 : Int)) default = x1.getD (0 + Int.toNat (0 : Int)) default)/\(((x1.length : Int) - 1 = (x1.length : Int) - 1)/\(((x1.length : Int) = (x1.length : Int))/\((0=0 /\ x1.length = x1.length)/\((x1.getD (0 + Int.toNat (0 : Int)) default = x1.getD (0 + Int.toNat (0 : Int)) default)/\(((0 + Int.toNat (0 : Int) = 0 + Int.toNat (0 : Int)) /\ 0=0)/\((0=0 /\ x1.length = x1.length)/\((0=0 /\ x1.length = x1.length)/\((0=0 /\ 0=0)/\((0=0 /\ 0=0)/\(((0 : Int) = 0)/\(((0 : Int) = 0)/\True)))))))))))))))))))))))))/\(((RLe x1.length x1.length)/\(RowsEq [.int .i64] x1.length (setRow (setRow (encL encI x4.l) (0 + Int.toNat (x4.i : Int)) 0 (D.i (x4.l.getD (0 + Int.toNat ((2 : Int) * (x4.i : Int) + 1)) default) :: @List.nil D)) (0 + Int.toNat ((2 : Int) * (x4.i : Int) + 1)) 0 (D.i (x4.l.getD (0 + Int.toNat (x4.i : Int)) default) :: @List.nil D)) (encL encI x20.l)))/\(((0=0 /\ x1.length = x1.length)/\True)/\True)))))))))))))))))))))))))))))))))))))))))) = (Keeps cfgN0 Try.f57 popC popI) by kernel_rfl) (fun x1 => fun h2 => ⟨⟨(by omega),
(by omega)⟩,
(by omega),
⟨(by omega),
(by omega)⟩,
⟨(by omega),
(by omega)⟩,
(by omega),
⟨(by omega),
(by omega)⟩,
⟨(by omega),trivial,trivial⟩,
⟨(by omega),
(by omega),
(by omega)⟩,
({ l := List.set x1 (0 : Nat) (List.getD x1 (List.length x1 - (1 : Nat)) default), i := (0 : Nat) : UpX }),
⟨⟨(by (try dsimp only at *); grind),
(by (try dsimp only at *); omega),rfl⟩,
⟨(by (try dsimp only at *); omega),
⟨(by (try dsimp only at *); omega),
(by (try dsimp only at *); omega)⟩,
⟨rfl,rfl⟩,
⟨rfl,rfl⟩,rfl,
⟨rfl,rfl⟩,
⟨rfl,rfl⟩,rfl,
⟨rfl,rfl⟩,rfl,
⟨rfl,rfl⟩,
⟨rfl,rfl⟩,rfl,rfl,rfl,rfl,
⟨rfl,rfl⟩,rfl,
⟨rfl,rfl⟩,
⟨rfl,rfl⟩,
⟨rfl,rfl⟩,
⟨rfl,rfl⟩,
⟨rfl,rfl⟩,rfl,rfl,trivial⟩,
⟨⟨Nat.le_refl _⟩,
(by (try dsimp only at *); (rw [ix3 (by omega)]; exact rows_setI (by omega)))⟩,
⟨⟨rfl,rfl⟩,trivial⟩,trivial⟩,
fun x4 => fun h5 => ⟨⟨(by (try dsimp only at *); omega),
(by (try dsimp only at *); omega)⟩,
⟨(by (try dsimp only at *); omega),
(by (try dsimp only at *); omega)⟩,
fun g6 => have h6 := of_decide_eq_true g6; ⟨⟨(by (try dsimp only at *); grind),
(by (try dsimp only at *); omega),
(by (try dsimp only at *); grind),
(by (try dsimp only at *); grind)⟩,
⟨(by (try dsimp only at *); grind),
(by (try dsimp only at *); omega)⟩,
⟨(by (try dsimp only at *); grind),
(by (try dsimp only at *); grind),trivial⟩,
⟨⟨rfl,rfl⟩,trivial⟩,
⟨⟨(by (try dsimp only at *); omega)⟩,
(by (try dsimp only at *); ((try simp only [nat0, ix1, ix2] at *); first | exact pop_rows h5.2.2 (fun h => by omega) | exact pop_rows h5.2.2 (by rw [kid2 (by omega) h9]; omega) | exact pop_rows h5.2.2 (by rw [kid1 (by omega)]; omega) | (rw [<- h5.2.2, down_step (i := x4.i) ⟨by omega, by rw [kid2 (by omega) h9]; omega⟩, kid2 (by omega) h9]) | (rw [<- h5.2.2, down_step (i := x4.i) ⟨by omega, by rw [kid1 (by omega)]; omega⟩, kid1 (by omega)]) | exact swap_rows (by omega) (by omega) (by omega)))⟩,trivial⟩,
fun g7 => have h7 := of_decide_eq_false g7; ⟨⟨(by (try dsimp only at *); omega),
(by (try dsimp only at *); omega)⟩,
fun g8 => have h8 := of_decide_eq_true g8; ⟨⟨(by (try dsimp only at *); omega),
(by (try dsimp only at *); omega)⟩,
⟨(by (try dsimp only at *); omega),
(by (try dsimp only at *); omega)⟩,
(by (try dsimp only at *); omega),
⟨(by (try dsimp only at *); omega),
(by (try dsimp only at *); omega)⟩,
(by (try dsimp only at *); omega),
fun g9 => have h9 := of_decide_eq_true g9; ⟨⟨(by (try dsimp only at *); omega),
(by (try dsimp only at *); omega)⟩,
⟨(by (try dsimp only at *); omega),
(by (try dsimp only at *); omega)⟩,
(by (try dsimp only at *); omega),
⟨(by (try dsimp only at *); omega),
(by (try dsimp only at *); omega)⟩,
(by (try dsimp only at *); omega),
fun g10 => have h10 := of_decide_eq_true g10; ⟨⟨(by (try dsimp only at *); grind),
(by (try dsimp only at *); omega),
(by (try dsimp only at *); grind),
(by (try dsimp only at *); grind)⟩,
⟨(by (try dsimp only at *); grind),
(by (try dsimp only at *); omega)⟩,
⟨(by (try dsimp only at *); grind),
(by (try dsimp only at *); grind),trivial⟩,
⟨⟨rfl,rfl⟩,trivial⟩,
⟨⟨(by (try dsimp only at *); omega)⟩,
(by (try dsimp only at *); ((try simp only [nat0, ix1, ix2] at *); first | exact pop_rows h5.2.2 (fun h => by omega) | exact pop_rows h5.2.2 (by rw [kid2 (by omega) h9]; omega) | exact pop_rows h5.2.2 (by rw [kid1 (by omega)]; omega) | (rw [<- h5.2.2, down_step (i := x4.i) ⟨by omega, by rw [kid2 (by omega) h9]; omega⟩, kid2 (by omega) h9]) | (rw [<- h5.2.2, down_step (i := x4.i) ⟨by omega, by rw [kid1 (by omega)]; omega⟩, kid1 (by omega)]) | exact swap_rows (by omega) (by omega) (by omega)))⟩,trivial⟩,
fun g11 => have h11 := of_decide_eq_false g11; ⟨⟨(by (try dsimp only at *); omega),
(by (try dsimp only at *); omega)⟩,
(by (try dsimp only at *); omega),
⟨(by (try dsimp only at *); omega),
(by (try dsimp only at *); omega)⟩,
(by (try dsimp only at *); omega),
⟨(by (try dsimp only at *); omega),
(by (try dsimp only at *); omega)⟩,
⟨(by (try dsimp only at *); omega),trivial,trivial⟩,
⟨(by (try dsimp only at *); omega),
(by (try dsimp only at *); omega)⟩,
⟨(by (try dsimp only at *); omega),trivial,trivial⟩,
({ l := swapL (UpX.l x4) (UpX.i x4) ((2 : Nat) * UpX.i x4 + (2 : Nat)), i := (2 : Nat) * UpX.i x4 + (2 : Nat) : UpX }),
(by (try dsimp only at *); omega),
⟨(by (try dsimp only at *); (simp only [swapL_len, List.length_set]; omega)),
(by (try dsimp only at *); omega),
(by (try dsimp only at *); ((try simp only [nat0, ix1, ix2] at *); first | exact pop_rows h5.2.2 (fun h => by omega) | exact pop_rows h5.2.2 (by rw [kid2 (by omega) h9]; omega) | exact pop_rows h5.2.2 (by rw [kid1 (by omega)]; omega) | (rw [<- h5.2.2, down_step (i := x4.i) ⟨by omega, by rw [kid2 (by omega) h9]; omega⟩, kid2 (by omega) h9]) | (rw [<- h5.2.2, down_step (i := x4.i) ⟨by omega, by rw [kid1 (by omega)]; omega⟩, kid1 (by omega)]) | exact swap_rows (by omega) (by omega) (by omega)))⟩,
⟨(by (try dsimp only at *); omega),
⟨rfl,rfl⟩,
⟨rfl,rfl⟩,
⟨rfl,rfl⟩,rfl,
⟨rfl,rfl⟩,
⟨rfl,rfl⟩,rfl,
⟨rfl,rfl⟩,rfl,
⟨rfl,rfl⟩,
⟨rfl,rfl⟩,rfl,rfl,rfl,rfl,
⟨rfl,rfl⟩,rfl,
⟨rfl,rfl⟩,
⟨rfl,rfl⟩,
⟨rfl,rfl⟩,
⟨rfl,rfl⟩,
⟨rfl,rfl⟩,rfl,rfl,trivial⟩,
⟨⟨Nat.le_refl _⟩,
(by (try dsimp only at *); ((try simp only [nat0, ix1, ix2] at *); first | exact pop_rows h5.2.2 (fun h => by omega) | exact pop_rows h5.2.2 (by rw [kid2 (by omega) h9]; omega) | exact pop_rows h5.2.2 (by rw [kid1 (by omega)]; omega) | (rw [<- h5.2.2, down_step (i := x4.i) ⟨by omega, by rw [kid2 (by omega) h9]; omega⟩, kid2 (by omega) h9]) | (rw [<- h5.2.2, down_step (i := x4.i) ⟨by omega, by rw [kid1 (by omega)]; omega⟩, kid1 (by omega)]) | exact swap_rows (by omega) (by omega) (by omega)))⟩,
⟨⟨rfl,rfl⟩,trivial⟩,trivial⟩⟩,
fun g13 => have h13 := of_decide_eq_false g13; ⟨⟨(by (try dsimp only at *); omega),
(by (try dsimp only at *); omega)⟩,
(by (try dsimp only at *); omega),
⟨(by (try dsimp only at *); omega),
(by (try dsimp only at *); omega)⟩,
(by (try dsimp only at *); omega),
fun g14 => have h14 := of_decide_eq_true g14; ⟨⟨(by (try dsimp only at *); grind),
(by (try dsimp only at *); omega),
(by (try dsimp only at *); grind),
(by (try dsimp only at *); grind)⟩,
⟨(by (try dsimp only at *); grind),
(by (try dsimp only at *); omega)⟩,
⟨(by (try dsimp only at *); grind),
(by (try dsimp only at *); grind),trivial⟩,
⟨⟨rfl,rfl⟩,trivial⟩,
⟨⟨(by (try dsimp only at *); omega)⟩,
(by (try dsimp only at *); ((try simp only [nat0, ix1, ix2] at *); first | exact pop_rows h5.2.2 (fun h => by omega) | exact pop_rows h5.2.2 (by rw [kid2 (by omega) h9]; omega) | exact pop_rows h5.2.2 (by rw [kid1 (by omega)]; omega) | (rw [<- h5.2.2, down_step (i := x4.i) ⟨by omega, by rw [kid2 (by omega) h9]; omega⟩, kid2 (by omega) h9]) | (rw [<- h5.2.2, down_step (i := x4.i) ⟨by omega, by rw [kid1 (by omega)]; omega⟩, kid1 (by omega)]) | exact swap_rows (by omega) (by omega) (by omega)))⟩,trivial⟩,
fun g15 => have h15 := of_decide_eq_false g15; ⟨⟨(by (try dsimp only at *); omega),
(by (try dsimp only at *); omega)⟩,
(by (try dsimp only at *); omega),
⟨(by (try dsimp only at *); omega),
(by (try dsimp only at *); omega)⟩,
(by (try dsimp only at *); omega),
⟨(by (try dsimp only at *); omega),
(by (try dsimp only at *); omega)⟩,
⟨(by (try dsimp only at *); omega),trivial,trivial⟩,
⟨(by (try dsimp only at *); omega),
(by (try dsimp only at *); omega)⟩,
⟨(by (try dsimp only at *); omega),trivial,trivial⟩,
({ l := swapL (UpX.l x4) (UpX.i x4) ((2 : Nat) * UpX.i x4 + (1 : Nat)), i := (2 : Nat) * UpX.i x4 + (1 : Nat) : UpX }),
(by (try dsimp only at *); omega),
⟨(by (try dsimp only at *); (simp only [swapL_len, List.length_set]; omega)),
(by (try dsimp only at *); omega),
(by (try dsimp only at *); ((try simp only [nat0, ix1, ix2] at *); first | exact pop_rows h5.2.2 (fun h => by omega) | exact pop_rows h5.2.2 (by rw [kid2 (by omega) h9]; omega) | exact pop_rows h5.2.2 (by rw [kid1 (by omega)]; omega) | (rw [<- h5.2.2, down_step (i := x4.i) ⟨by omega, by rw [kid2 (by omega) h9]; omega⟩, kid2 (by omega) h9]) | (rw [<- h5.2.2, down_step (i := x4.i) ⟨by omega, by rw [kid1 (by omega)]; omega⟩, kid1 (by omega)]) | exact swap_rows (by omega) (by omega) (by omega)))⟩,
⟨(by (try dsimp only at *); omega),
⟨rfl,rfl⟩,
⟨rfl,rfl⟩,
⟨rfl,rfl⟩,rfl,
⟨rfl,rfl⟩,
⟨rfl,rfl⟩,rfl,
⟨rfl,rfl⟩,rfl,
⟨rfl,rfl⟩,
⟨rfl,rfl⟩,rfl,rfl,rfl,rfl,
⟨rfl,rfl⟩,rfl,
⟨rfl,rfl⟩,
⟨rfl,rfl⟩,
⟨rfl,rfl⟩,
⟨rfl,rfl⟩,
⟨rfl,rfl⟩,rfl,rfl,trivial⟩,
⟨⟨Nat.le_refl _⟩,
(by (try dsimp only at *); ((try simp only [nat0, ix1, ix2] at *); first | exact pop_rows h5.2.2 (fun h => by omega) | exact pop_rows h5.2.2 (by rw [kid2 (by omega) h9]; omega) | exact pop_rows h5.2.2 (by rw [kid1 (by omega)]; omega) | (rw [<- h5.2.2, down_step (i := x4.i) ⟨by omega, by rw [kid2 (by omega) h9]; omega⟩, kid2 (by omega) h9]) | (rw [<- h5.2.2, down_step (i := x4.i) ⟨by omega, by rw [kid1 (by omega)]; omega⟩, kid1 (by omega)]) | exact swap_rows (by omega) (by omega) (by omega)))⟩,
⟨⟨rfl,rfl⟩,trivial⟩,trivial⟩⟩⟩,
fun g17 => have h17 := of_decide_eq_false g17; ⟨⟨(by (try dsimp only at *); omega),
(by (try dsimp only at *); omega)⟩,
(by (try dsimp only at *); omega),
⟨(by (try dsimp only at *); omega),
(by (try dsimp only at *); omega)⟩,
(by (try dsimp only at *); omega),
fun g18 => have h18 := of_decide_eq_true g18; ⟨⟨(by (try dsimp only at *); grind),
(by (try dsimp only at *); omega),
(by (try dsimp only at *); grind),
(by (try dsimp only at *); grind)⟩,
⟨(by (try dsimp only at *); grind),
(by (try dsimp only at *); omega)⟩,
⟨(by (try dsimp only at *); grind),
(by (try dsimp only at *); grind),trivial⟩,
⟨⟨rfl,rfl⟩,trivial⟩,
⟨⟨(by (try dsimp only at *); omega)⟩,
(by (try dsimp only at *); ((try simp only [nat0, ix1, ix2] at *); first | exact pop_rows h5.2.2 (fun h => by omega) | exact pop_rows h5.2.2 (by rw [kid2 (by omega) h9]; omega) | exact pop_rows h5.2.2 (by rw [kid1 (by omega)]; omega) | (rw [<- h5.2.2, down_step (i := x4.i) ⟨by omega, by rw [kid2 (by omega) h9]; omega⟩, kid2 (by omega) h9]) | (rw [<- h5.2.2, down_step (i := x4.i) ⟨by omega, by rw [kid1 (by omega)]; omega⟩, kid1 (by omega)]) | exact swap_rows (by omega) (by omega) (by omega)))⟩,trivial⟩,
fun g19 => have h19 := of_decide_eq_false g19; ⟨⟨(by (try dsimp only at *); omega),
(by (try dsimp only at *); omega)⟩,
(by (try dsimp only at *); omega),
⟨(by (try dsimp only at *); omega),
(by (try dsimp only at *); omega)⟩,
(by (try dsimp only at *); omega),
⟨(by (try dsimp only at *); omega),
(by (try dsimp only at *); omega)⟩,
⟨(by (try dsimp only at *); omega),trivial,trivial⟩,
⟨(by (try dsimp only at *); omega),
(by (try dsimp only at *); omega)⟩,
⟨(by (try dsimp only at *); omega),trivial,trivial⟩,
({ l := swapL (UpX.l x4) (UpX.i x4) ((2 : Nat) * UpX.i x4 + (1 : Nat)), i := (2 : Nat) * UpX.i x4 + (1 : Nat) : UpX }),
(by (try dsimp only at *); omega),
⟨(by (try dsimp only at *); (simp only [swapL_len, List.length_set]; omega)),
(by (try dsimp only at *); omega),
(by (try dsimp only at *); ((try simp only [nat0, ix1, ix2] at *); first | exact pop_rows h5.2.2 (fun h => by omega) | exact pop_rows h5.2.2 (by rw [kid2 (by omega) h9]; omega) | exact pop_rows h5.2.2 (by rw [kid1 (by omega)]; omega) | (rw [<- h5.2.2, down_step (i := x4.i) ⟨by omega, by rw [kid2 (by omega) h9]; omega⟩, kid2 (by omega) h9]) | (rw [<- h5.2.2, down_step (i := x4.i) ⟨by omega, by rw [kid1 (by omega)]; omega⟩, kid1 (by omega)]) | exact swap_rows (by omega) (by omega) (by omega)))⟩,
⟨(by (try dsimp only at *); omega),
⟨rfl,rfl⟩,
⟨rfl,rfl⟩,
⟨rfl,rfl⟩,rfl,
⟨rfl,rfl⟩,
⟨rfl,rfl⟩,rfl,
⟨rfl,rfl⟩,rfl,
⟨rfl,rfl⟩,
⟨rfl,rfl⟩,rfl,rfl,rfl,rfl,
⟨rfl,rfl⟩,rfl,
⟨rfl,rfl⟩,
⟨rfl,rfl⟩,
⟨rfl,rfl⟩,
⟨rfl,rfl⟩,
⟨rfl,rfl⟩,rfl,rfl,trivial⟩,
⟨⟨Nat.le_refl _⟩,
(by (try dsimp only at *); ((try simp only [nat0, ix1, ix2] at *); first | exact pop_rows h5.2.2 (fun h => by omega) | exact pop_rows h5.2.2 (by rw [kid2 (by omega) h9]; omega) | exact pop_rows h5.2.2 (by rw [kid1 (by omega)]; omega) | (rw [<- h5.2.2, down_step (i := x4.i) ⟨by omega, by rw [kid2 (by omega) h9]; omega⟩, kid2 (by omega) h9]) | (rw [<- h5.2.2, down_step (i := x4.i) ⟨by omega, by rw [kid1 (by omega)]; omega⟩, kid1 (by omega)]) | exact swap_rows (by omega) (by omega) (by omega)))⟩,
⟨⟨rfl,rfl⟩,trivial⟩,trivial⟩⟩⟩⟩⟩)
theorem pop_good : Good Try.prog 57 popC /\ FnOk Try.prog 57 := good_of tok conN0 (fn := Try.f57) rfl (by decide +kernel) (fun _ => rfl) pop_keeps
end Go.Sym