import Derived.Test.YtpommejalaechaaDoorJ4
import Derived.Test.YtpommejalaechaaDoorXD
namespace Go.Sym
set_option linter.unusedVariables false
set_option linter.unusedSimpArgs false
open Go.Proofs
set_option maxRecDepth 100000
set_option maxHeartbeats 4000000
structure NIx where
 g : Gr
 ts : List Int
def newCells (x : NIx) : List SV := [.p 100000 0 0, .sl 2 0 x.g.es.length, .sl 3 0 x.g.n, .ns, .ns, .bt true]
def newIC : CT where
 X := NIx
 pre := fun x => GOk x.g
 args := fun x => [.p 100000 0 0, .sl 100001 0 x.ts.length]
 g0 := fun x => graphH x.g 100000 ++ [(100001, .rows .bor k1 x.ts.length (encL encI x.ts))]
 res := fun x => .tup [.p 1 0 0, .i .i64 0]
 g1 := fun x => [(1, .one .own (newCells x)), (2, .rows .own k1 x.g.es.length (encL encI (ttL x.ts x.g.es.length))), (3, .rows .own kB x.g.n (encL encBo (List.replicate x.g.n false)))]
def encN43 (ts : List Int) (k : Nat) : Bool := decide ((k : Int) < ts.length /\ isT (ts.getD k default) = true)
def newII (x : NIx) (id : Nat) : Option Inv := match id with
 | 0 => some { X := Nat, ok := fun k => k <= x.g.es.length, fr := fun k => [(24, .i .i64 k)], hp := fun k => [(13, .rows .own k1 x.g.es.length (encL encI (ttAt x.ts x.g.es.length k)))], me := fun k => x.g.es.length - k,
               inn := fun k id => match id with
                | 100043 => some (cutB 43 (encN43 x.ts k))
                | _ => none }
 | _ => none
def cfgJb : Cfg := ⟨T, [], [(34, .one edgesC), (35, .one nodesC), (31, .one isTC)], noInv, 50, {}⟩
theorem conJb : ConOk Tryd.prog cfgJb := ConL.ok (.cons (ConL.one edges_good) (.cons (ConL.one nodes_good) (.cons (ConL.one ist_good) .nil)))
theorem rows_zeroB {n : Nat} {ks : List Kd} (hk : ks = kB) : RowsEq kB n (fun _ j => zRow ks j) (encL encBo (List.replicate n false)) := by
 subst hk
 exact rowsEq_zero (α := Bool) (e := encBo) (by simp only [rowEq, Kd.eqv, kB]; exact ⟨rfl, trivial⟩)
theorem nt_yes {ts : List Int} {n k : Nat} (hk : (k : Int) < n) (h1 : (k : Int) < ts.length) (h2 : isT (ts.getD k default) = true) : ttAt ts n (k + 1) = (ttAt ts n k).set k (ts.getD k default) := by
 have := of_decide_eq_true h2
 rw [ttAt_succ (by omega), tt_yes ⟨by omega, this⟩]
theorem nt_no {ts : List Int} {n k : Nat} (hk : (k : Int) < n) (h : ¬ ((k : Int) < ts.length /\ isT (ts.getD k default) = true)) : ttAt ts n (k + 1) = (ttAt ts n k).set k 4611686018427387904 := by
 rw [ttAt_succ (by omega), tt_no (fun q => h ⟨by omega, decide_eq_true q.2⟩)]
theorem set_set2 {l : List Int} {k : Nat} {a b : Int} : (l.set k a).set k b = l.set k b := by simp
set_option maxRecDepth 100000 in
theorem newI_keeps : Keeps cfgJb Tryd.f18 newIC newII := Eq.mp (show ((∀ x1 : NIx, ((GOk x1.g)-> (∃ x3 : Gr, (True/\(((0=0 /\ 0=0)/\True)/\(((RLe 1 1/\(RowsEq [.sl [.int .i64, .int .i64, .int .i64], .sl [.sl [.int .i64]], .sl [.sl [.int .i64]]] 1 (encG x1.g) (encG x3)))/\True)/\((((0 : Int) <= (x3.es.length : Int))/\(((x3.es.length : Int) <= (x3.es.length : Int))/\((x3.es.length : Int) <= (↑(1073741824 : Nat) : Int))))/\(∃ x4 : Gr, (True/\(((0=0 /\ 0=0)/\True)/\(((RLe 1 1/\(RowsEq [.sl [.int .i64, .int .i64, .int .i64], .sl [.sl [.int .i64]], .sl [.sl [.int .i64]]] 1 (encG x1.g) (encG x4)))/\True)/\((((0 : Int) <= (x4.n : Int))/\(((x4.n : Int) <= (x4.n : Int))/\((x4.n : Int) <= (↑(1073741824 : Nat) : Int))))/\(∃ x5 : Nat, (((x5 <= x1.g.es.length)/\(((0 = (x5 : Int))/\(((↑(Int.toNat (x3.es.length : Int)) : Int) = (↑(Int.toNat (x3.es.length : Int)) : Int))/\((0=0/\(Int.toNat (x3.es.length : Int) = Int.toNat (x3.es.length : Int)))/\((0=0/\((1 : Nat) = (1 : Nat)))/\((0=0 /\ 0=0)/\((0=0 /\ 0=0)/\((0=0 /\ 0=0)/\((0=0 /\ 0=0)/\(((0=0 /\ 0=0)/\((0=0/\(Int.toNat (x3.es.length : Int) = Int.toNat (x3.es.length : Int)))/\((0=0/\(Int.toNat (x4.n : Int) = Int.toNat (x4.n : Int)))/\(True/\(True/\(true = true/\True))))))/\((0=0/\(Int.toNat (x4.n : Int) = Int.toNat (x4.n : Int)))/\(((x4.n : Int) = (x4.n : Int))/\((0=0 /\ 0=0)/\((0=0/\(Int.toNat (x3.es.length : Int) = Int.toNat (x3.es.length : Int)))/\(((x3.es.length : Int) = (x3.es.length : Int))/\((0=0 /\ 0=0)/\((0=0 /\ 0=0)/\(false = false/\((0=0 /\ 0=0)/\(((0 : Int) = 0)/\(True/\((0=0 /\ 0=0)/\((0=0 /\ x1.ts.length = x1.ts.length)/\True))))))))))))))))))))))/\(((RLe x1.g.es.length (Int.toNat (x3.es.length : Int)))/\(RowsEq [.int .i64] x1.g.es.length (fun (x j : Nat) => zRow [.int .i64] j) (encL encI (ttAt x1.ts x1.g.es.length x5))))/\(((0=0 /\ 0=0)/\((0=0/\(Int.toNat (x3.es.length : Int) = Int.toNat (x3.es.length : Int)))/\((0=0/\(Int.toNat (x4.n : Int) = Int.toNat (x4.n : Int)))/\(True/\(True/\(true = true/\True))))))/\(((RLe (Int.toNat (x4.n : Int)) (Int.toNat (x4.n : Int)))/\(RowsEq (Kd.bool :: []) (Int.toNat (x4.n : Int)) (fun (x j : Nat) => zRow (Kd.bool :: []) j) fun (x j : Nat) => zRow (Kd.bool :: []) j))/\((RLe 1 1/\(RowsEq [.sl [.int .i64, .int .i64, .int .i64], .sl [.sl [.int .i64]], .sl [.sl [.int .i64]]] 1 (encG x1.g) (encG x1.g)))/\(((RLe x1.ts.length x1.ts.length)/\(RI x1.ts.length x1.ts x1.ts))/\True)))))))/\(∀ x6 : Nat, ((x6 <= x1.g.es.length)-> (((decide ((x6 : Int) < (↑(Int.toNat (x3.es.length : Int)) : Int)) = true)-> ((((0 : Int) <= (x6 : Int))/\((x6 : Int) < (↑(Int.toNat (x3.es.length : Int)) : Int)))/\(((0 + Int.toNat (x6 : Int) < x1.g.es.length)/\(True/\True))/\((((decide ((x6 : Int) < (x1.ts.length : Int)) = true)-> ((((0 : Int) <= (x6 : Int))/\((x6 : Int) < (x1.ts.length : Int)))/\((0 + Int.toNat (x6 : Int) < x1.ts.length)/\(∃ x10 : Int, (True/\(((x1.ts.getD (0 + Int.toNat (x6 : Int)) default = x10)/\True)/\(True/\(∃ x11 : Unit, (True/\((isT x10 = decide ((x6 : Int) < (x1.ts.length : Int) /\ isT (x1.ts.getD x6 default) = true))/\True))))))))))/\((decide ((x6 : Int) < (x1.ts.length : Int)) = false)-> (∃ x13 : Unit, (True/\((false = decide ((x6 : Int) < (x1.ts.length : Int) /\ isT (x1.ts.getD x6 default) = true))/\True)))))/\(∀ x14 : Unit, (True -> (((decide ((x6 : Int) < (x1.ts.length : Int) /\ isT (x1.ts.getD x6 default) = true) = true)-> ((((0 : Int) <= (x6 : Int))/\((x6 : Int) < (x1.ts.length : Int)))/\((0 + Int.toNat (x6 : Int) < x1.ts.length)/\((((0 : Int) <= (x6 : Int))/\((x6 : Int) < (↑(Int.toNat (x3.es.length : Int)) : Int)))/\(((0 + Int.toNat (x6 : Int) < x1.g.es.length)/\(True/\True))/\((((-9223372036854775808 : Int) <= (x6 : Int) + 1)/\((x6 : Int) + 1 <= (9223372036854775807 : Int)))/\(∃ x17 : Nat, ((x1.g.es.length - x17 < x1.g.es.length - x6)/\((x17 <= x1.g.es.length)/\((((x6 : Int) + 1 = (x17 : Int))/\(((↑(Int.toNat (x3.es.length : Int)) : Int) = (↑(Int.toNat (x3.es.length : Int)) : Int))/\((0=0/\(Int.toNat (x3.es.length : Int) = Int.toNat (x3.es.length : Int)))/\((0=0/\((1 : Nat) = (1 : Nat)))/\((0=0 /\ 0=0)/\((0=0 /\ 0=0)/\((0=0 /\ 0=0)/\((0=0 /\ 0=0)/\(((0=0 /\ 0=0)/\((0=0/\(Int.toNat (x3.es.length : Int) = Int.toNat (x3.es.length : Int)))/\((0=0/\(Int.toNat (x4.n : Int) = Int.toNat (x4.n : Int)))/\(True/\(True/\(true = true/\True))))))/\((0=0/\(Int.toNat (x4.n : Int) = Int.toNat (x4.n : Int)))/\(((x4.n : Int) = (x4.n : Int))/\((0=0 /\ 0=0)/\((0=0/\(Int.toNat (x3.es.length : Int) = Int.toNat (x3.es.length : Int)))/\(((x3.es.length : Int) = (x3.es.length : Int))/\((0=0 /\ 0=0)/\((0=0 /\ 0=0)/\(false = false/\((0=0 /\ 0=0)/\(((0 : Int) = 0)/\(True/\((0=0 /\ 0=0)/\((0=0 /\ x1.ts.length = x1.ts.length)/\True))))))))))))))))))))))/\(((RLe x1.g.es.length x1.g.es.length)/\(RowsEq [.int .i64] x1.g.es.length (setRow (setRow (encL encI (ttAt x1.ts x1.g.es.length x6)) (0 + Int.toNat (x6 : Int)) 0 (D.i 4611686018427387904 :: @List.nil D)) (0 + Int.toNat (x6 : Int)) 0 (D.i (x1.ts.getD (0 + Int.toNat (x6 : Int)) default) :: @List.nil D)) (encL encI (ttAt x1.ts x1.g.es.length x17))))/\(((0=0 /\ 0=0)/\((0=0/\(Int.toNat (x3.es.length : Int) = Int.toNat (x3.es.length : Int)))/\((0=0/\(Int.toNat (x4.n : Int) = Int.toNat (x4.n : Int)))/\(True/\(True/\(true = true/\True))))))/\(((RLe (Int.toNat (x4.n : Int)) (Int.toNat (x4.n : Int)))/\(RowsEq (Kd.bool :: []) (Int.toNat (x4.n : Int)) (fun (x j : Nat) => zRow (Kd.bool :: []) j) fun (x j : Nat) => zRow (Kd.bool :: []) j))/\((RLe 1 1/\(RowsEq [.sl [.int .i64, .int .i64, .int .i64], .sl [.sl [.int .i64]], .sl [.sl [.int .i64]]] 1 (encG x1.g) (encG x1.g)))/\(((RLe x1.ts.length x1.ts.length)/\(RI x1.ts.length x1.ts x1.ts))/\True)))))))))))))))/\((decide ((x6 : Int) < (x1.ts.length : Int) /\ isT (x1.ts.getD x6 default) = true) = false)-> ((((-9223372036854775808 : Int) <= (x6 : Int) + 1)/\((x6 : Int) + 1 <= (9223372036854775807 : Int)))/\(∃ x19 : Nat, ((x1.g.es.length - x19 < x1.g.es.length - x6)/\((x19 <= x1.g.es.length)/\((((x6 : Int) + 1 = (x19 : Int))/\(((↑(Int.toNat (x3.es.length : Int)) : Int) = (↑(Int.toNat (x3.es.length : Int)) : Int))/\((0=0/\(Int.toNat (x3.es.length : Int) = Int.toNat (x3.es.length : Int)))/\((0=0/\((1 : Nat) = (1 : Nat)))/\((0=0 /\ 0=0)/\((0=0 /\ 0=0)/\((0=0 /\ 0=0)/\((0=0 /\ 0=0)/\(((0=0 /\ 0=0)/\((0=0/\(Int.toNat (x3.es.length : Int) = Int.toNat (x3.es.length : Int)))/\((0=0/\(Int.toNat (x4.n : Int) = Int.toNat (x4.n : Int)))/\(True/\(True/\(true = true/\True))))))/\((0=0/\(Int.toNat (x4.n : Int) = Int.toNat (x4.n : Int)))/\(((x4.n : Int) = (x4.n : Int))/\((0=0 /\ 0=0)/\((0=0/\(Int.toNat (x3.es.length : Int) = Int.toNat (x3.es.length : Int)))/\(((x3.es.length : Int) = (x3.es.length : Int))/\((0=0 /\ 0=0)/\((0=0 /\ 0=0)/\(false = false/\((0=0 /\ 0=0)/\(((0 : Int) = 0)/\(True/\((0=0 /\ 0=0)/\((0=0 /\ x1.ts.length = x1.ts.length)/\True))))))))))))))))))))))/\(((RLe x1.g.es.length x1.g.es.length)/\(RowsEq [.int .i64] x1.g.es.length (setRow (encL encI (ttAt x1.ts x1.g.es.length x6)) (0 + Int.toNat (x6 : Int)) 0 (D.i 4611686018427387904 :: @List.nil D)) (encL encI (ttAt x1.ts x1.g.es.length x19))))/\(((0=0 /\ 0=0)/\((0=0/\(Int.toNat (x3.es.length : Int) = Int.toNat (x3.es.length : Int)))/\((0=0/\(Int.toNat (x4.n : Int) = Int.toNat (x4.n : Int)))/\(True/\(True/\(true = true/\True))))))/\(((RLe (Int.toNat (x4.n : Int)) (Int.toNat (x4.n : Int)))/\(RowsEq (Kd.bool :: []) (Int.toNat (x4.n : Int)) (fun (x j : Nat) => zRow (Kd.bool :: []) j) fun (x j : Nat) => zRow (Kd.bool :: []) j))/\((RLe 1 1/\(RowsEq [.sl [.int .i64, .int .i64, .int .i64], .sl [.sl [.int .i64]], .sl [.sl [.int .i64]]] 1 (encG x1.g) (encG x1.g)))/\(((RLe x1.ts.length x1.ts.length)/\(RI x1.ts.length x1.ts x1.ts))/\True))))))))))))))))))/\((decide ((x6 : Int) < (↑(Int.toNat (x3.es.length : Int)) : Int)) = false)-> (((0=0 /\ 0=0)/\(((0 : Int) = 0)/\True))/\(((0=0 /\ 0=0)/\((0=0/\(Int.toNat (x3.es.length : Int) = x1.g.es.length))/\((0=0/\(Int.toNat (x4.n : Int) = x1.g.n))/\(True/\(True/\(true = true/\True))))))/\(((RLe x1.g.es.length x1.g.es.length)/\(RI x1.g.es.length (ttAt x1.ts x1.g.es.length x6) (ttL x1.ts x1.g.es.length)))/\(((RLe x1.g.n (Int.toNat (x4.n : Int)))/\(RowsEq (Kd.bool :: []) x1.g.n (fun (x j : Nat) => zRow (Kd.bool :: []) j) (encL encBo (List.replicate x1.g.n false))))/\True))))))))))))))))))))))) = (Keeps cfgJb Tryd.f18 newIC newII) by kernel_rfl) (fun x1 => fun h2 => ⟨(NIx.g x1),
 trivial,
⟨⟨rfl,rfl⟩,trivial⟩,
⟨⟨rl,rr⟩,trivial⟩,
⟨(by omega),
(by omega),
(by have := h2.m; have := h2.n; omega)⟩,
(NIx.g x1),trivial,
⟨⟨rfl,rfl⟩,trivial⟩,
⟨⟨rl,rr⟩,trivial⟩,
⟨(by omega),
(by omega),
(by have := h2.m; have := h2.n; omega)⟩,
((0 : Nat)),
⟨(by omega),
⟨(by omega),rfl,
⟨rfl,rfl⟩,
⟨rfl,rfl⟩,
⟨rfl,rfl⟩,
⟨rfl,rfl⟩,
⟨rfl,rfl⟩,
⟨rfl,rfl⟩,
⟨⟨rfl,rfl⟩,
⟨rfl,rfl⟩,
⟨rfl,rfl⟩,trivial,trivial,rfl,trivial⟩,
⟨rfl,rfl⟩,rfl,
⟨rfl,rfl⟩,
⟨rfl,rfl⟩,rfl,
⟨rfl,rfl⟩,
⟨rfl,rfl⟩,rfl,
⟨rfl,rfl⟩,rfl,trivial,
⟨rfl,rfl⟩,
⟨rfl,rfl⟩,trivial⟩,
⟨⟨(by omega)⟩,
(by rw [ttAt_zero]; exact rows_zeroI rfl)⟩,
⟨⟨rfl,rfl⟩,
⟨rfl,rfl⟩,
⟨rfl,rfl⟩,trivial,trivial,rfl,trivial⟩,
⟨rl,rr⟩,
⟨rl,rr⟩,
⟨rl,rr⟩,trivial⟩,
fun x6 => fun h7 => ⟨fun g8 => have h8 := dT g8; ⟨⟨(by omega),
(by omega)⟩,
⟨(by omega),trivial,trivial⟩,
⟨fun g9 => have h9 := dT g9; ⟨⟨(by omega),
(by omega)⟩,
(by omega),
(List.getD (NIx.ts x1) ((0 : Nat) + Int.toNat (↑x6 : Int)) default),trivial,
⟨rfl,trivial⟩,trivial,
(default),trivial,
(by grind),trivial⟩,
fun g12 => have h12 := dF g12; ⟨(default),trivial,
(by grind),trivial⟩⟩,
fun x14 => fun h15 => ⟨fun g16 => have h16 := dT g16; ⟨⟨(by omega),
(by omega)⟩,
(by omega),
⟨(by omega),
(by omega)⟩,
⟨(by omega),trivial,trivial⟩,
⟨(by omega),
(by have := h2.m; have := h2.n; omega)⟩,
(x6 + (1 : Nat)),
(by omega),
(by omega),
⟨(by omega),rfl,
⟨rfl,rfl⟩,
⟨rfl,rfl⟩,
⟨rfl,rfl⟩,
⟨rfl,rfl⟩,
⟨rfl,rfl⟩,
⟨rfl,rfl⟩,
⟨⟨rfl,rfl⟩,
⟨rfl,rfl⟩,
⟨rfl,rfl⟩,trivial,trivial,rfl,trivial⟩,
⟨rfl,rfl⟩,rfl,
⟨rfl,rfl⟩,
⟨rfl,rfl⟩,rfl,
⟨rfl,rfl⟩,
⟨rfl,rfl⟩,rfl,
⟨rfl,rfl⟩,rfl,trivial,
⟨rfl,rfl⟩,
⟨rfl,rfl⟩,trivial⟩,
⟨rl,
(by simp only [Nat.zero_add, Int.toNat_natCast] at *; rw [nt_yes ‹_› h16.1 h16.2, <- set_set2 (a := 4611686018427387904)]; exact rowsEq_setOf (rows_setI (by rw [ttAt_len]; omega)) (by omega) (by rw [List.length_set, ttAt_len]; omega) ⟨rfl, trivial⟩)⟩,
⟨⟨rfl,rfl⟩,
⟨rfl,rfl⟩,
⟨rfl,rfl⟩,trivial,trivial,rfl,trivial⟩,
⟨rl,rr⟩,
⟨rl,rr⟩,
⟨rl,rr⟩,trivial⟩,
fun g18 => have h18 := dF g18; ⟨⟨(by omega),
(by have := h2.m; have := h2.n; omega)⟩,
(x6 + (1 : Nat)),
(by omega),
(by omega),
⟨(by omega),rfl,
⟨rfl,rfl⟩,
⟨rfl,rfl⟩,
⟨rfl,rfl⟩,
⟨rfl,rfl⟩,
⟨rfl,rfl⟩,
⟨rfl,rfl⟩,
⟨⟨rfl,rfl⟩,
⟨rfl,rfl⟩,
⟨rfl,rfl⟩,trivial,trivial,rfl,trivial⟩,
⟨rfl,rfl⟩,rfl,
⟨rfl,rfl⟩,
⟨rfl,rfl⟩,rfl,
⟨rfl,rfl⟩,
⟨rfl,rfl⟩,rfl,
⟨rfl,rfl⟩,rfl,trivial,
⟨rfl,rfl⟩,
⟨rfl,rfl⟩,trivial⟩,
⟨rl,
(by simp only [Nat.zero_add, Int.toNat_natCast] at *; rw [nt_no ‹_› h18]; exact rows_setI (by rw [ttAt_len]; omega))⟩,
⟨⟨rfl,rfl⟩,
⟨rfl,rfl⟩,
⟨rfl,rfl⟩,trivial,trivial,rfl,trivial⟩,
⟨rl,rr⟩,
⟨rl,rr⟩,
⟨rl,rr⟩,trivial⟩⟩⟩,
fun g20 => have h20 := dF g20; ⟨⟨⟨rfl,rfl⟩,rfl,trivial⟩,
⟨⟨rfl,rfl⟩,
⟨rfl,
(by omega)⟩,
⟨rfl,
(by omega)⟩,trivial,trivial,rfl,trivial⟩,
⟨rl,
(by simp only [Int.toNat_natCast] at *; rw [show x6 = x1.g.es.length by omega, ttAt_full]; exact rr)⟩,
⟨⟨(by omega)⟩,
(rows_zeroB rfl)⟩,trivial⟩⟩⟩)
theorem newI_good : Good Tryd.prog 18 newIC /\ FnOk Tryd.prog 18 := good_of tok conJb (fn := Tryd.f18) rfl (by decide +kernel) (fun _ => rfl) newI_keeps
end Go.Sym