import Derived.Test.YtplpefihhhcbbaaDoorS3
import Derived.Test.YtplpefihhhcbbaaDoorXD
namespace Go.Sym
set_option linter.unusedVariables false
set_option linter.unusedSimpArgs false
open Go.Proofs
set_option maxHeartbeats 4000000
def neverC : CT where
 X := Unit
 pre := fun _ => True
 args := fun _ => []
 g0 := fun _ => []
 res := fun _ => .i .i64 4611686018427387904
 g1 := fun _ => []
set_option maxRecDepth 100000 in
theorem never_keeps : Keeps cfgN0 Tryd.f49 neverC noIv := Eq.mp (show ((∀ x1 : Unit, (True -> (((4611686018427387904 : Int) = 4611686018427387904)/\True)))) = (Keeps cfgN0 Tryd.f49 neverC noIv) by kernel_rfl) (fun x1 => fun h2 => ⟨rfl,trivial⟩)
theorem never_good : Good Tryd.prog 49 neverC /\ FnOk Tryd.prog 49 := good_of tok conN0 (fn := Tryd.f49) rfl (by decide +kernel) (fun _ => rfl) never_keeps
def cfgNv : Cfg := ⟨T, [], [(49, .one neverC)], noInv, 20, {}⟩
theorem conNv : ConOk Tryd.prog cfgNv := ConL.ok (.cons (ConL.one never_good) .nil)
set_option maxRecDepth 100000 in
theorem time_keeps : Keeps cfgNv Tryd.f57 travelC noIv := Eq.mp (show ((∀ x1 : TX, ((x1.i <= (1073741824 : Nat))-> (((decide ((x1.ts.length : Int) <= (x1.i : Int)) = false)-> ((((0 : Int) <= (x1.i : Int))/\((x1.i : Int) < (x1.ts.length : Int)))/\((0 + Int.toNat (x1.i : Int) < x1.ts.length)/\(((decide (x1.ts.getD (0 + Int.toNat (x1.i : Int)) default < 1) = false)-> ((((0 : Int) <= (x1.i : Int))/\((x1.i : Int) < (x1.ts.length : Int)))/\((0 + Int.toNat (x1.i : Int) < x1.ts.length)/\(((decide (1048576 < x1.ts.getD (0 + Int.toNat (x1.i : Int)) default) = true)-> (∃ x6 : Unit, (True/\(True/\(True/\(((4611686018427387904 : Int) = tt x1.ts x1.i)/\True))))))/\((decide (1048576 < x1.ts.getD (0 + Int.toNat (x1.i : Int)) default) = false)-> ((((0 : Int) <= (x1.i : Int))/\((x1.i : Int) < (x1.ts.length : Int)))/\((0 + Int.toNat (x1.i : Int) < x1.ts.length)/\((x1.ts.getD (0 + Int.toNat (x1.i : Int)) default = tt x1.ts x1.i)/\True))))))))/\((decide (x1.ts.getD (0 + Int.toNat (x1.i : Int)) default < 1) = true)-> (∃ x9 : Unit, (True/\(True/\(True/\(((4611686018427387904 : Int) = tt x1.ts x1.i)/\True))))))))))/\((decide ((x1.ts.length : Int) <= (x1.i : Int)) = true)-> (∃ x11 : Unit, (True/\(True/\(True/\(((4611686018427387904 : Int) = tt x1.ts x1.i)/\True)))))))))) = (Keeps cfgNv Tryd.f57 travelC noIv) by kernel_rfl) (fun x1 => fun h2 => ⟨fun g3 => have h3 := of_decide_eq_false g3; ⟨⟨(by omega),
(by omega)⟩,
(by omega),
fun g4 => have h4 := of_decide_eq_false g4; ⟨⟨(by omega),
(by omega)⟩,
(by omega),
fun g5 => have h5 := of_decide_eq_true g5; ⟨(default),trivial,trivial,trivial,
(by (try dsimp only at *); (try simp only [nat0] at *); rw [tt_no (by omega)]),trivial⟩,
fun g7 => have h7 := of_decide_eq_false g7; ⟨⟨(by (try dsimp only at *); omega),
(by (try dsimp only at *); omega)⟩,
(by (try dsimp only at *); omega),
(by (try dsimp only at *); (simp only [nat0] at *; rw [tt_yes (by omega)])),trivial⟩⟩,
fun g8 => have h8 := of_decide_eq_true g8; ⟨(default),trivial,trivial,trivial,
(by (try dsimp only at *); (try simp only [nat0] at *); rw [tt_no (by omega)]),trivial⟩⟩,
fun g10 => have h10 := of_decide_eq_true g10; ⟨(default),trivial,trivial,trivial,
(by (try dsimp only at *); (try simp only [nat0] at *); rw [tt_no (by omega)]),trivial⟩⟩)
theorem time_good : Good Tryd.prog 57 travelC /\ FnOk Tryd.prog 57 := good_of tok conNv (fn := Tryd.f57) rfl (by decide +kernel) (fun _ => rfl) time_keeps
end Go.Sym
namespace Go.Sym
set_option linter.unusedVariables false
set_option linter.unusedSimpArgs false
open Go.Proofs
set_option maxHeartbeats 4000000
def greatC : CT where
 X := List Int
 pre := fun _ => True
 args := fun l => [.sl 100000 0 l.length]
 g0 := fun l => [(100000, .rows .bor k1 l.length (encL encI l))]
 res := fun l => .b (decide (60 < l.length))
 g1 := fun _ => []
set_option maxRecDepth 100000 in
theorem great_keeps : Keeps cfgN0 Tryd.f12 greatC noIv := Eq.mp (show ((∀ x1 : List Int, (True -> ((decide (60 < (x1.length : Int)) = decide (60 < x1.length))/\True)))) = (Keeps cfgN0 Tryd.f12 greatC noIv) by kernel_rfl) (fun x1 => fun h2 => ⟨(by grind),trivial⟩)
theorem great_good : Good Tryd.prog 12 greatC /\ FnOk Tryd.prog 12 := good_of tok conN0 (fn := Tryd.f12) rfl (by decide +kernel) (fun _ => rfl) great_keeps
structure LIX where
 l : List Int
 n : Int
def qhasC : CT where
 X := LIX
 pre := fun x => x.l.length <= 1073741824
 args := fun x => [.sl 100000 0 x.l.length, .i .i64 x.n]
 g0 := fun x => [(100000, .rows .bor k1 x.l.length (encL encI x.l))]
 res := fun x => .b (decide (x.n ∈ x.l))
 g1 := fun _ => []
def qhasI (x : LIX) (id : Nat) : Option Inv := match id with
 | 0 => some { X := Nat, ok := fun k => k <= x.l.length /\ x.n ∉ x.l.take k, fr := fun k => [(9, .i .i64 k)], hp := fun _ => [], me := fun k => x.l.length - k }
 | _ => none
theorem has_yes {l : List Int} {n : Int} {k : Nat} (hk : (k : Int) < l.length) (h : l.getD (0 + (k : Int).toNat) default = n) : n ∈ l := by
 rw [nat0] at h
 rw [<- h, List.getD_eq_getElem?_getD, List.getElem?_eq_getElem (by omega)]
 exact List.getElem_mem _
theorem has_step {l : List Int} {n : Int} {k : Nat} (hk : (k : Int) < l.length) (h : ¬ l.getD (0 + (k : Int).toNat) default = n) (ht : k <= l.length /\ n ∉ l.take k) : n ∉ l.take (k + 1) := by
 rw [nat0] at h
 rw [take_succ_getD (d := default) (by omega), List.mem_append, List.mem_singleton]
 exact fun q => q.elim ht.2 (fun e => h e.symm)
theorem has_end {l : List Int} {n : Int} {k : Nat} (hk : ¬ (k : Int) < l.length) (ht : k <= l.length /\ n ∉ l.take k) : n ∉ l := by
 have h := ht.2
 rwa [List.take_of_length_le (by omega)] at h
set_option maxRecDepth 100000 in
theorem qhas_keeps : Keeps cfgN0 Tryd.f67 qhasC qhasI := Eq.mp (show ((∀ x1 : LIX, ((x1.l.length <= (1073741824 : Nat))-> (∃ x3 : Nat, ((((x3 <= x1.l.length)/\(¬x1.n ∈ List.take x3 x1.l))/\(((0 = (x3 : Int))/\(((x1.l.length : Int) = (x1.l.length : Int))/\((0=0 /\ x1.l.length = x1.l.length)/\((0=0 /\ x1.l.length = x1.l.length)/\(x1.n = x1.n/\True)))))/\(((RLe x1.l.length x1.l.length)/\(RowsEq [.int .i64] x1.l.length (encL encI x1.l) (encL encI x1.l)))/\True)))/\(∀ x4 : Nat, ((x4 <= x1.l.length /\ ¬x1.n ∈ List.take x4 x1.l)-> (((decide ((x4 : Int) < (x1.l.length : Int)) = true)-> ((((0 : Int) <= (x4 : Int))/\((x4 : Int) < (x1.l.length : Int)))/\((0 + Int.toNat (x4 : Int) < x1.l.length)/\(((decide (x1.l.getD (0 + Int.toNat (x4 : Int)) default = x1.n) = true)-> ((true = decide (x1.n ∈ x1.l))/\True))/\((decide (x1.l.getD (0 + Int.toNat (x4 : Int)) default = x1.n) = false)-> ((((-9223372036854775808 : Int) <= (x4 : Int) + 1)/\((x4 : Int) + 1 <= (9223372036854775807 : Int)))/\(∃ x9 : Nat, ((x1.l.length - x9 < x1.l.length - x4)/\(((x9 <= x1.l.length)/\(¬x1.n ∈ List.take x9 x1.l))/\((((x4 : Int) + 1 = (x9 : Int))/\(((x1.l.length : Int) = (x1.l.length : Int))/\((0=0 /\ x1.l.length = x1.l.length)/\((0=0 /\ x1.l.length = x1.l.length)/\(x1.n = x1.n/\True)))))/\(((RLe x1.l.length x1.l.length)/\(RowsEq [.int .i64] x1.l.length (encL encI x1.l) (encL encI x1.l)))/\True)))))))))))/\((decide ((x4 : Int) < (x1.l.length : Int)) = false)-> ((false = decide (x1.n ∈ x1.l))/\True)))))))))) = (Keeps cfgN0 Tryd.f67 qhasC qhasI) by kernel_rfl) (fun x1 => fun h2 => ⟨((0 : Nat)),
⟨⟨(by (try dsimp only at *); omega),
(by (try dsimp only at *); grind)⟩,
⟨(by (try dsimp only at *); omega),rfl,
⟨rfl,rfl⟩,
⟨rfl,rfl⟩,rfl,trivial⟩,
⟨⟨Nat.le_refl _⟩,RowsEq.rfl'⟩,trivial⟩,
fun x4 => fun h5 => ⟨fun g6 => have h6 := of_decide_eq_true g6; ⟨⟨(by (try dsimp only at *); omega),
(by (try dsimp only at *); omega)⟩,
(by (try dsimp only at *); omega),
fun g7 => have h7 := of_decide_eq_true g7; ⟨(by (try dsimp only at *); grind),trivial⟩,
fun g8 => have h8 := of_decide_eq_false g8; ⟨⟨(by (try dsimp only at *); omega),
(by (try dsimp only at *); omega)⟩,
(x4 + (1 : Nat)),
(by (try dsimp only at *); omega),
⟨(by (try dsimp only at *); omega),
(by (try dsimp only at *); exact has_step ‹_› ‹_› ‹_›)⟩,
⟨(by (try dsimp only at *); omega),rfl,
⟨rfl,rfl⟩,
⟨rfl,rfl⟩,rfl,trivial⟩,
⟨⟨Nat.le_refl _⟩,RowsEq.rfl'⟩,trivial⟩⟩,
fun g10 => have h10 := of_decide_eq_false g10; ⟨(by (try dsimp only at *); grind),trivial⟩⟩⟩)
end Go.Sym