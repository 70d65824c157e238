import Derived.Test.YtplpefihhhcbbaaDoorN1
import Derived.Test.YtplpefihhhcbbaaDoorXD
namespace Go.Sym
set_option linter.unusedVariables false
set_option linter.unusedSimpArgs false
open Go.Proofs
theorem setOf_good : Good Tryd.prog 35 setOfC /\ FnOk Tryd.prog 35 := good_of tok conN0 (fn := Tryd.f35) rfl (by decide +kernel) (fun _ => rfl) setOf_keeps
def k1 : List Kd := [.int .i64]
def CN1 : List (Nat × Con) := [(34, .one addC), (35, .one setOfC)]
def cfgN1 : Cfg := ⟨T, [], CN1, noInv, 22, {}⟩
theorem conN1 : ConOk Tryd.prog cfgN1 := ConL.ok (.cons (ConL.one add_good) (.cons (ConL.one setOf_good) .nil))
def addOk (ws : List Nat) (n : Int) : List Nat := if 0 <= n /\ n < 4096 then addW ws n else ws
def ofW (l : List Int) (k : Nat) : List Nat := (l.take k).foldl addOk nilW
theorem WOk.addOk {ws : List Nat} (h : WOk ws) (n : Int) : WOk (addOk ws n) := by unfold Go.Sym.addOk; split; exact h.add n; exact h
theorem take_succ_getD {α : Type} {xs : List α} {k : Nat} {d : α} (h : k < xs.length) : xs.take (k + 1) = xs.take k ++ [xs.getD k d] := by
 rw [List.take_succ_eq_append_getElem h]; simp [List.getD_eq_getElem?_getD, h]
theorem ofW_succ {l : List Int} {k : Nat} (h : k < l.length) : ofW l (k + 1) = addOk (ofW l k) (l.getD k default) := by
 unfold ofW; rw [take_succ_getD (d := default) h, List.foldl_append]; rfl
theorem ofW_ok (l : List Int) : ∀ k, WOk (ofW l k) := by
 intro k
 unfold ofW
 have : ∀ (l : List Int) (ws : List Nat), WOk ws -> WOk (l.foldl addOk ws) := by
  intro l
  induction l with
  | nil => intro ws h; exact h
  | cons a r ih => intro ws h; exact ih _ (h.addOk a)
 exact this _ _ .nil
theorem nil_rows : RowsEq kW 64 (fun _ j => zRow kW j) (encL encW nilW) := ⟨fun r hr => by
 unfold encL
 rw [nilW_at]
 simp only [rowEq, Kd.eqv, kW]; exact ⟨rfl, trivial⟩⟩
theorem of_yes {l : List Int} {k : Nat} (hk : (k : Int) < l.length) (h1 : 0 <= l.getD (0 + (k : Int).toNat) default) (h2 : l.getD (0 + (k : Int).toNat) default < 4096) : addW (ofW l k) (l.getD (0 + (k : Int).toNat) default) = ofW l (k + 1) := by
 rw [Nat.zero_add, Int.toNat_natCast] at *
 rw [ofW_succ (by omega)]; unfold addOk; rw [if_pos ⟨h1, h2⟩]
theorem of_no {l : List Int} {k : Nat} (hk : (k : Int) < l.length) (h1 : ¬ (0 <= l.getD (0 + (k : Int).toNat) default /\ l.getD (0 + (k : Int).toNat) default < 4096)) : ofW l k = ofW l (k + 1) := by
 rw [Nat.zero_add, Int.toNat_natCast] at *
 rw [ofW_succ (by omega)]; unfold addOk; rw [if_neg h1]
def ofC : CT where
 X := List Int
 pre := fun l => l.length <= 1048576
 args := fun l => [.sl 100000 0 l.length]
 g0 := fun l => [(100000, .rows .bor k1 l.length (encL encI l))]
 res := fun l => setV (ofW l l.length) 1
 g1 := fun l => setH (ofW l l.length) .own 1
def ofI (l : List Int) (id : Nat) : Option Inv := match id with
 | 0 => some { X := Nat, ok := fun k => k <= l.length, fr := fun k => [(8, .i .i64 k), (3, .p 3 0 0), (2, .p 2 0 0)], hp := fun k => [(2, .one .own [.np]), (3, .rows .own kW 64 (encL encW (ofW l k)))], me := fun k => l.length - k }
 | _ => none
set_option maxRecDepth 100000 in
theorem of_keeps : Keeps cfgN1 Tryd.f14 ofC ofI := Eq.mp (show ((∀ x1 : List Int, ((x1.length <= (1048576 : Nat))-> (∃ x3 : Nat, (((x3 <= x1.length)/\(((0 = (x3 : Int))/\((0=0 /\ 0=0)/\((0=0 /\ 0=0)/\(((x1.length : Int) = (x1.length : Int))/\((0=0 /\ x1.length = x1.length)/\((0=0 /\ x1.length = x1.length)/\True))))))/\((True/\True)/\((RLe 64 64/\(RowsEq [.int .u64] 64 (fun (x j : Nat) => zRow [.int .u64] j) (encL encW (ofW x1 x3))))/\(((RLe x1.length x1.length)/\(RowsEq [.int .i64] x1.length (encL encI x1) (encL encI x1)))/\True)))))/\(∀ x4 : Nat, ((x4 <= x1.length)-> (((decide ((x4 : Int) < (x1.length : Int)) = true)-> ((((0 : Int) <= (x4 : Int))/\((x4 : Int) < (x1.length : Int)))/\((0 + Int.toNat (x4 : Int) < x1.length)/\(((decide ((0 : Int) <= x1.getD (0 + Int.toNat (x4 : Int)) default) = true)-> (((decide (x1.getD (0 + Int.toNat (x4 : Int)) default < 4096) = true)-> (∃ x9 : BitX, (((WOk x9.ws)/\(((0 : Int) <= x9.n)/\(x9.n < (4096 : Int))))/\(((0=0 /\ 0=0)/\((x1.getD (0 + Int.toNat (x4 : Int)) default = x9.n)/\True))/\(((RLe 64 64/\(RowsEq [.int .u64] 64 (encL encW (ofW x1 x4)) (encL encW x9.ws)))/\True)/\((((-9223372036854775808 : Int) <= (x4 : Int) + 1)/\((x4 : Int) + 1 <= (9223372036854775807 : Int)))/\(∃ x10 : Nat, ((x1.length - x10 < x1.length - x4)/\((x10 <= x1.length)/\((((x4 : Int) + 1 = (x10 : Int))/\((0=0 /\ 0=0)/\((0=0 /\ 0=0)/\(((x1.length : Int) = (x1.length : Int))/\((0=0 /\ x1.length = x1.length)/\((0=0 /\ x1.length = x1.length)/\True))))))/\((True/\True)/\((RLe 64 64/\(RowsEq [.int .u64] 64 (encL encW (addW x9.ws x9.n)) (encL encW (ofW x1 x10))))/\(((RLe x1.length x1.length)/\(RowsEq [.int .i64] x1.length (encL encI x1) (encL encI x1)))/\True)))))))))))))/\((decide (x1.getD (0 + Int.toNat (x4 : Int)) default < 4096) = false)-> ((((-9223372036854775808 : Int) <= (x4 : Int) + 1)/\((x4 : Int) + 1 <= (9223372036854775807 : Int)))/\(∃ x12 : Nat, ((x1.length - x12 < x1.length - x4)/\((x12 <= x1.length)/\((((x4 : Int) + 1 = (x12 : Int))/\((0=0 /\ 0=0)/\((0=0 /\ 0=0)/\(((x1.length : Int) = (x1.length : Int))/\((0=0 /\ x1.length = x1.length)/\((0=0 /\ x1.length = x1.length)/\True))))))/\((True/\True)/\((RLe 64 64/\(RowsEq [.int .u64] 64 (encL encW (ofW x1 x4)) (encL encW (ofW x1 x12))))/\(((RLe x1.length x1.length)/\(RowsEq [.int .i64] x1.length (encL encI x1) (encL encI x1)))/\True)))))))))))/\((decide ((0 : Int) <= x1.getD (0 + Int.toNat (x4 : Int)) default) = false)-> ((((-9223372036854775808 : Int) <= (x4 : Int) + 1)/\((x4 : Int) + 1 <= (9223372036854775807 : Int)))/\(∃ x14 : Nat, ((x1.length - x14 < x1.length - x4)/\((x14 <= x1.length)/\((((x4 : Int) + 1 = (x14 : Int))/\((0=0 /\ 0=0)/\((0=0 /\ 0=0)/\(((x1.length : Int) = (x1.length : Int))/\((0=0 /\ x1.length = x1.length)/\((0=0 /\ x1.length = x1.length)/\True))))))/\((True/\True)/\((RLe 64 64/\(RowsEq [.int .u64] 64 (encL encW (ofW x1 x4)) (encL encW (ofW x1 x14))))/\(((RLe x1.length x1.length)/\(RowsEq [.int .i64] x1.length (encL encI x1) (encL encI x1)))/\True)))))))))))))/\((decide ((x4 : Int) < (x1.length : Int)) = false)-> (∃ x16 : List Nat, ((WOk x16)/\(((0=0 /\ 0=0)/\True)/\(((RLe 64 64/\(RowsEq [.int .u64] 64 (encL encW (ofW x1 x4)) (encL encW x16)))/\True)/\(((szW x16 = szW (ofW x1 x1.length))/\True)/\(((RLe (szW (ofW x1 x1.length)) (szW x16))/\(RowsEq [.int .u64] (szW (ofW x1 x1.length)) (encL encW x16) (encL encW (ofW x1 x1.length))))/\True))))))))))))))) = (Keeps cfgN1 Tryd.f14 ofC ofI) by kernel_rfl) (fun x1 => fun h2 => ⟨((0 : Nat)),
⟨(by (try dsimp only at *); omega),
⟨(by (try dsimp only at *); omega),
⟨rfl,rfl⟩,
⟨rfl,rfl⟩,rfl,
⟨rfl,rfl⟩,
⟨rfl,rfl⟩,trivial⟩,
⟨trivial,trivial⟩,
⟨⟨Nat.le_refl _⟩,
(by (try dsimp only at *); exact nil_rows)⟩,
⟨⟨Nat.le_refl _⟩,RowsEq.rfl'⟩,trivial⟩,
fun x4 => fun h5 => ⟨fun g6 => have h6 := of_decide_eq_true g6; ⟨⟨(by (try dsimp only at *); omega),
(by (try dsimp only at *); omega)⟩,
(by (try dsimp only at *); omega),
fun g7 => have h7 := of_decide_eq_true g7; ⟨fun g8 => have h8 := of_decide_eq_true g8; ⟨({ ws := ofW x1 x4, n := List.getD x1 ((0 : Nat) + Int.toNat (↑x4 : Int)) default : BitX }),
⟨(by (try dsimp only at *); exact ofW_ok _ _),
(by (try dsimp only at *); omega),
(by (try dsimp only at *); omega)⟩,
⟨⟨rfl,rfl⟩,rfl,trivial⟩,
⟨⟨⟨Nat.le_refl _⟩,RowsEq.rfl'⟩,trivial⟩,
⟨(by (try dsimp only at *); omega),
(by (try dsimp only at *); omega)⟩,
(x4 + (1 : Nat)),
(by (try dsimp only at *); omega),
(by (try dsimp only at *); omega),
⟨(by (try dsimp only at *); omega),
⟨rfl,rfl⟩,
⟨rfl,rfl⟩,rfl,
⟨rfl,rfl⟩,
⟨rfl,rfl⟩,trivial⟩,
⟨trivial,trivial⟩,
⟨⟨Nat.le_refl _⟩,
(by
       (dsimp only; rw [of_yes h6 h7 h8]; exact RowsEq.rfl'))⟩,
⟨⟨Nat.le_refl _⟩,RowsEq.rfl'⟩,trivial⟩,
fun g11 => have h11 := of_decide_eq_false g11; ⟨⟨(by (try dsimp only at *); omega),
(by (try dsimp only at *); omega)⟩,
(x4 + (1 : Nat)),
(by (try dsimp only at *); omega),
(by (try dsimp only at *); omega),
⟨(by (try dsimp only at *); omega),
⟨rfl,rfl⟩,
⟨rfl,rfl⟩,rfl,
⟨rfl,rfl⟩,
⟨rfl,rfl⟩,trivial⟩,
⟨trivial,trivial⟩,
⟨⟨Nat.le_refl _⟩,
(by
       (rw [<- of_no h6 (fun h => h11 h.2)]; exact RowsEq.rfl'))⟩,
⟨⟨Nat.le_refl _⟩,RowsEq.rfl'⟩,trivial⟩⟩,
fun g13 => have h13 := of_decide_eq_false g13; ⟨⟨(by (try dsimp only at *); omega),
(by (try dsimp only at *); omega)⟩,
(x4 + (1 : Nat)),
(by (try dsimp only at *); omega),
(by (try dsimp only at *); omega),
⟨(by (try dsimp only at *); omega),
⟨rfl,rfl⟩,
⟨rfl,rfl⟩,rfl,
⟨rfl,rfl⟩,
⟨rfl,rfl⟩,trivial⟩,
⟨trivial,trivial⟩,
⟨⟨Nat.le_refl _⟩,
(by
       (rw [<- of_no h6 (fun h => h13 h.1)]; exact RowsEq.rfl'))⟩,
⟨⟨Nat.le_refl _⟩,RowsEq.rfl'⟩,trivial⟩⟩,
fun g15 => have h15 := of_decide_eq_false g15; ⟨(ofW x1 x4),
(by (try dsimp only at *); exact ofW_ok _ _),
⟨⟨rfl,rfl⟩,trivial⟩,
⟨⟨⟨Nat.le_refl _⟩,RowsEq.rfl'⟩,trivial⟩,
⟨(by (try dsimp only at *); grind),trivial⟩,
⟨⟨(by (try dsimp only at *); grind)⟩,
(by
       (obtain rfl : x4 = x1.length := (by omega); exact RowsEq.rfl'))⟩,trivial⟩⟩⟩)
theorem of_good : Good Tryd.prog 14 ofC /\ FnOk Tryd.prog 14 := good_of tok conN1 (fn := Tryd.f14) rfl (by decide +kernel) (fun _ => rfl) of_keeps
def allW (k : Nat) : List Nat := (List.range k).foldl (fun (ws : List Nat) (i : Nat) => addW ws (i : Int)) nilW
theorem allW_succ (k : Nat) : allW (k + 1) = addW (allW k) k := by unfold allW; rw [List.range_succ, List.foldl_append]; rfl
theorem allW_ok : ∀ k, WOk (allW k)
 | 0 => .nil
 | k + 1 => by rw [allW_succ]; exact (allW_ok k).add _
def allNC : CT where
 X := Int
 pre := fun n => 0 <= n
 args := fun n => [.i .i64 n]
 g0 := fun n => []
 res := fun n => setV (allW (min n 4096).toNat) 1
 g1 := fun n => setH (allW (min n 4096).toNat) .own 1
def allNI (n : Int) (id : Nat) : Option Inv := match id with
 | 0 => some { X := Nat, ok := fun k => k <= (min n 4096).toNat, fr := fun k => [(7, .i .i64 k), (3, .p 3 0 0), (2, .p 2 0 0)], hp := fun k => [(2, .one .own [.np]), (3, .rows .own kW 64 (encL encW (allW k)))], me := fun k => (min n 4096).toNat - k }
 | _ => none
set_option maxRecDepth 100000 in
theorem all_keeps : Keeps cfgN1 Tryd.f19 allNC allNI := Eq.mp (show ((∀ x1 : Int, (((0 : Int) <= x1)-> (∃ x3 : Nat, (((x3 <= Int.toNat (min x1 (4096 : Int)))/\(((0 = (x3 : Int))/\((0=0 /\ 0=0)/\((0=0 /\ 0=0)/\((min x1 (4096 : Int) = min x1 (4096 : Int))/\(x1 = x1/\(x1 = x1/\True))))))/\((True/\True)/\((RLe 64 64/\(RowsEq [.int .u64] 64 (fun (x j : Nat) => zRow [.int .u64] j) (encL encW (allW x3))))/\True))))/\(∀ x4 : Nat, ((x4 <= Int.toNat (min x1 (4096 : Int)))-> (((decide ((x4 : Int) < min x1 (4096 : Int)) = true)-> (∃ x7 : BitX, (((WOk x7.ws)/\(((0 : Int) <= x7.n)/\(x7.n < (4096 : Int))))/\(((0=0 /\ 0=0)/\(((x4 : Int) = x7.n)/\True))/\(((RLe 64 64/\(RowsEq [.int .u64] 64 (encL encW (allW x4)) (encL encW x7.ws)))/\True)/\((((-9223372036854775808 : Int) <= (x4 : Int) + 1)/\((x4 : Int) + 1 <= (9223372036854775807 : Int)))/\(∃ x8 : Nat, ((Int.toNat (min x1 (4096 : Int)) - x8 < Int.toNat (min x1 (4096 : Int)) - x4)/\((x8 <= Int.toNat (min x1 (4096 : Int)))/\((((x4 : Int) + 1 = (x8 : Int))/\((0=0 /\ 0=0)/\((0=0 /\ 0=0)/\((min x1 (4096 : Int) = min x1 (4096 : Int))/\(x1 = x1/\(x1 = x1/\True))))))/\((True/\True)/\((RLe 64 64/\(RowsEq [.int .u64] 64 (encL encW (addW x7.ws x7.n)) (encL encW (allW x8))))/\True))))))))))))/\((decide ((x4 : Int) < min x1 (4096 : Int)) = false)-> (∃ x10 : List Nat, ((WOk x10)/\(((0=0 /\ 0=0)/\True)/\(((RLe 64 64/\(RowsEq [.int .u64] 64 (encL encW (allW x4)) (encL encW x10)))/\True)/\(((szW x10 = szW (allW (Int.toNat (min x1 (4096 : Int)))))/\True)/\(((RLe (szW (allW (Int.toNat (min x1 (4096 : Int))))) (szW x10))/\(RowsEq [.int .u64] (szW (allW (Int.toNat (min x1 (4096 : Int))))) (encL encW x10) (encL encW (allW (Int.toNat (min x1 (4096 : Int)))))))/\True))))))))))))))) = (Keeps cfgN1 Tryd.f19 allNC allNI) by kernel_rfl) (fun x1 => fun h2 => ⟨((0 : Nat)),
⟨(by (try dsimp only at *); omega),
⟨(by (try dsimp only at *); omega),
⟨rfl,rfl⟩,
⟨rfl,rfl⟩,rfl,rfl,rfl,trivial⟩,
⟨trivial,trivial⟩,
⟨⟨Nat.le_refl _⟩,
(by (try dsimp only at *); exact nil_rows)⟩,trivial⟩,
fun x4 => fun h5 => ⟨fun g6 => have h6 := of_decide_eq_true g6; ⟨({ ws := allW x4, n := (↑x4 : Int) : BitX }),
⟨(by (try dsimp only at *); exact allW_ok _),
(by (try dsimp only at *); omega),
(by (try dsimp only at *); omega)⟩,
⟨⟨rfl,rfl⟩,rfl,trivial⟩,
⟨⟨⟨Nat.le_refl _⟩,RowsEq.rfl'⟩,trivial⟩,
⟨(by (try dsimp only at *); omega),
(by (try dsimp only at *); omega)⟩,
(x4 + (1 : Nat)),
(by (try dsimp only at *); omega),
(by (try dsimp only at *); omega),
⟨(by (try dsimp only at *); omega),
⟨rfl,rfl⟩,
⟨rfl,rfl⟩,rfl,rfl,rfl,trivial⟩,
⟨trivial,trivial⟩,
⟨⟨Nat.le_refl _⟩,
(by
       (dsimp only; rw [allW_succ]; exact RowsEq.rfl'))⟩,trivial⟩,
fun g9 => have h9 := of_decide_eq_false g9; ⟨(allW x4),
(by (try dsimp only at *); exact allW_ok _),
⟨⟨rfl,rfl⟩,trivial⟩,
⟨⟨⟨Nat.le_refl _⟩,RowsEq.rfl'⟩,trivial⟩,
⟨(by (try dsimp only at *); grind),trivial⟩,
⟨⟨(by (try dsimp only at *); grind)⟩,
(by (try dsimp only at *); (obtain rfl : x4 = (min x1 4096).toNat := (by omega); exact RowsEq.rfl'))⟩,trivial⟩⟩⟩)
theorem all_good : Good Tryd.prog 19 allNC /\ FnOk Tryd.prog 19 := good_of tok conN1 (fn := Tryd.f19) rfl (by decide +kernel) (fun _ => rfl) all_keeps
end Go.Sym