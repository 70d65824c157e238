import Derived.Test.YtplpefihhhcbbaaDoorR1
import Derived.Test.YtplpefihhhcbbaaDoorXD
namespace Go.Sym
set_option linter.unusedVariables false
set_option linter.unusedSimpArgs false
open Go.Proofs
set_option maxHeartbeats 4000000
structure LLX where
 a : List Int
 b : List Int
def sameC : CT where
 X := LLX
 pre := fun x => x.a.length <= 1073741824
 args := fun x => [.sl 100000 0 x.a.length, .sl 100001 0 x.b.length]
 g0 := fun x => [(100000, .rows .bor k1 x.a.length (encL encI x.a)), (100001, .rows .bor k1 x.b.length (encL encI x.b))]
 res := fun x => .b (decide (x.a = x.b))
 g1 := fun _ => []
def sameI (x : LLX) (id : Nat) : Option Inv := match id with
 | 0 => some { X := Nat, ok := fun k => k <= x.a.length /\ x.a.take k = x.b.take k, fr := fun k => [(13, .i .i64 k)], hp := fun _ => [], me := fun k => x.a.length - k }
 | _ => none
theorem same_no {a b : List Int} {k : Nat} (hk : (k : Int) < a.length) (h : a.getD (0 + (k : Int).toNat) default ≠ b.getD (0 + (k : Int).toNat) default) : a ≠ b := fun e => h (by rw [e])
theorem same_step {a b : List Int} {k : Nat} (hl : ¬ (a.length : Int) ≠ b.length) (hk : (k : Int) < a.length) (h : ¬ a.getD (0 + (k : Int).toNat) default ≠ b.getD (0 + (k : Int).toNat) default) (ht : k <= a.length /\ a.take k = b.take k) : a.take (k + 1) = b.take (k + 1) := by
 rw [nat0] at h
 rw [take_succ_getD (d := default) (by omega), take_succ_getD (d := default) (by omega), ht.2]
 have : a.getD k default = b.getD k default := by omega
 rw [this]
theorem same_end {a b : List Int} {k : Nat} (hl : ¬ (a.length : Int) ≠ b.length) (hk : ¬ (k : Int) < a.length) (ht : k <= a.length /\ a.take k = b.take k) : a = b := by
 have h := ht.2
 rwa [List.take_of_length_le (by omega), List.take_of_length_le (by omega)] at h
set_option maxRecDepth 100000 in
theorem same_keeps : Keeps cfgN0 Tryd.f18 sameC sameI := Eq.mp (show ((∀ x1 : LLX, ((x1.a.length <= (1073741824 : Nat))-> (((decide ((x1.a.length : Int) ≠ (x1.b.length : Int)) = true)-> ((false = decide (x1.a = x1.b))/\True))/\((decide ((x1.a.length : Int) ≠ (x1.b.length : Int)) = false)-> (∃ x5 : Nat, ((((x5 <= x1.a.length)/\(List.take x5 x1.a = List.take x5 x1.b))/\(((0 = (x5 : Int))/\(((x1.a.length : Int) = (x1.a.length : Int))/\((0=0 /\ x1.a.length = x1.a.length)/\((decide ((x1.a.length : Int) ≠ (x1.b.length : Int)) = decide ((x1.a.length : Int) ≠ (x1.b.length : Int)))/\(((x1.b.length : Int) = (x1.b.length : Int))/\((0=0 /\ x1.b.length = x1.b.length)/\(((x1.a.length : Int) = (x1.a.length : Int))/\((0=0 /\ x1.a.length = x1.a.length)/\((0=0 /\ x1.a.length = x1.a.length)/\((0=0 /\ x1.b.length = x1.b.length)/\True))))))))))/\(((RLe x1.a.length x1.a.length)/\(RowsEq [.int .i64] x1.a.length (encL encI x1.a) (encL encI x1.a)))/\(((RLe x1.b.length x1.b.length)/\(RowsEq [.int .i64] x1.b.length (encL encI x1.b) (encL encI x1.b)))/\True))))/\(∀ x6 : Nat, ((x6 <= x1.a.length /\ List.take x6 x1.a = List.take x6 x1.b)-> (((decide ((x6 : Int) < (x1.a.length : Int)) = true)-> ((((0 : Int) <= (x6 : Int))/\((x6 : Int) < (x1.a.length : Int)))/\((0 + Int.toNat (x6 : Int) < x1.a.length)/\((((0 : Int) <= (x6 : Int))/\((x6 : Int) < (x1.b.length : Int)))/\((0 + Int.toNat (x6 : Int) < x1.b.length)/\(((decide (x1.a.getD (0 + Int.toNat (x6 : Int)) default ≠ x1.b.getD (0 + Int.toNat (x6 : Int)) default) = true)-> ((false = decide (x1.a = x1.b))/\True))/\((decide (x1.a.getD (0 + Int.toNat (x6 : Int)) default ≠ x1.b.getD (0 + Int.toNat (x6 : Int)) default) = false)-> ((((-9223372036854775808 : Int) <= (x6 : Int) + 1)/\((x6 : Int) + 1 <= (9223372036854775807 : Int)))/\(∃ x11 : Nat, ((x1.a.length - x11 < x1.a.length - x6)/\(((x11 <= x1.a.length)/\(List.take x11 x1.a = List.take x11 x1.b))/\((((x6 : Int) + 1 = (x11 : Int))/\(((x1.a.length : Int) = (x1.a.length : Int))/\((0=0 /\ x1.a.length = x1.a.length)/\((decide ((x1.a.length : Int) ≠ (x1.b.length : Int)) = decide ((x1.a.length : Int) ≠ (x1.b.length : Int)))/\(((x1.b.length : Int) = (x1.b.length : Int))/\((0=0 /\ x1.b.length = x1.b.length)/\(((x1.a.length : Int) = (x1.a.length : Int))/\((0=0 /\ x1.a.length = x1.a.length)/\((0=0 /\ x1.a.length = x1.a.length)/\((0=0 /\ x1.b.length = x1.b.length)/\True))))))))))/\(((RLe x1.a.length x1.a.length)/\(RowsEq [.int .i64] x1.a.length (encL encI x1.a) (encL encI x1.a)))/\(((RLe x1.b.length x1.b.length)/\(RowsEq [.int .i64] x1.b.length (encL encI x1.b) (encL encI x1.b)))/\True))))))))))))))/\((decide ((x6 : Int) < (x1.a.length : Int)) = false)-> ((true = decide (x1.a = x1.b))/\True)))))))))))) = (Keeps cfgN0 Tryd.f18 sameC sameI) by kernel_rfl) (fun x1 => fun h2 => ⟨fun g3 => have h3 := of_decide_eq_true g3; ⟨(by grind),trivial⟩,
fun g4 => have h4 := of_decide_eq_false g4; ⟨((0 : Nat)),
⟨⟨(by (try dsimp only at *); omega),
(by (try dsimp only at *); grind)⟩,
⟨(by (try dsimp only at *); omega),rfl,
⟨rfl,rfl⟩,rfl,rfl,
⟨rfl,rfl⟩,rfl,
⟨rfl,rfl⟩,
⟨rfl,rfl⟩,
⟨rfl,rfl⟩,trivial⟩,
⟨⟨Nat.le_refl _⟩,RowsEq.rfl'⟩,
⟨⟨Nat.le_refl _⟩,RowsEq.rfl'⟩,trivial⟩,
fun x6 => fun h7 => ⟨fun g8 => have h8 := of_decide_eq_true g8; ⟨⟨(by (try dsimp only at *); omega),
(by (try dsimp only at *); omega)⟩,
(by (try dsimp only at *); omega),
⟨(by (try dsimp only at *); omega),
(by (try dsimp only at *); omega)⟩,
(by (try dsimp only at *); omega),
fun g9 => have h9 := of_decide_eq_true g9; ⟨(by (try dsimp only at *); grind),trivial⟩,
fun g10 => have h10 := of_decide_eq_false g10; ⟨⟨(by (try dsimp only at *); omega),
(by (try dsimp only at *); omega)⟩,
(x6 + (1 : Nat)),
(by (try dsimp only at *); omega),
⟨(by (try dsimp only at *); omega),
(by (try dsimp only at *); exact same_step (by assumption) (by assumption) (by assumption) (by assumption))⟩,
⟨(by (try dsimp only at *); omega),rfl,
⟨rfl,rfl⟩,rfl,rfl,
⟨rfl,rfl⟩,rfl,
⟨rfl,rfl⟩,
⟨rfl,rfl⟩,
⟨rfl,rfl⟩,trivial⟩,
⟨⟨Nat.le_refl _⟩,RowsEq.rfl'⟩,
⟨⟨Nat.le_refl _⟩,RowsEq.rfl'⟩,trivial⟩⟩,
fun g12 => have h12 := of_decide_eq_false g12; ⟨(by (try dsimp only at *); grind),trivial⟩⟩⟩⟩)
theorem same_good : Good Tryd.prog 18 sameC /\ FnOk Tryd.prog 18 := good_of tok conN0 (fn := Tryd.f18) rfl (by decide +kernel) (fun _ => rfl) same_keeps
end Go.Sym