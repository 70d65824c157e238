import Derived.Test.YtmomlgnnbpkgcaaR1
import Derived.Test.YtmomlgnnbpkgcaaXD
namespace Go.Sym
set_option linter.unusedVariables false
set_option linter.unusedSimpArgs false
open Go.Proofs
set_option maxHeartbeats 4000000
def rightB (x : NewX) : Bool := decide (1 <= x.n /\ x.n <= 12 /\ x.es.length <= 40) && x.es.all (edVB x.n)
def rightC : CT where
 X := NewX
 pre := fun x => True
 args := fun x => [.agg [.i .i64 x.n, .sl 100000 0 x.es.length]]
 g0 := fun x => [(100000, .rows .bor kE x.es.length (encL encE x.es))]
 res := fun x => .b (rightB x)
 g1 := fun _ => []
def rightI (x : NewX) (id : Nat) : Option Inv := match id with
 | 0 => some { X := Nat, ok := fun k => k <= x.es.length /\ (x.es.take k).all (edVB x.n) = true, fr := fun k => [(3, .i .i64 k)], hp := fun _ => [], me := fun k => x.es.length - k }
 | _ => none
theorem right_out {x : NewX} (h : ¬ (1 <= x.n /\ x.n <= 12 /\ x.es.length <= 40)) : rightB x = false := by unfold rightB; rw [decide_eq_false h]; rfl
theorem right_bad {x : NewX} {k : Nat} (hk : (k : Int) < x.es.length)
  (hb : ¬ (0 <= (x.es.getD k default).f /\ (x.es.getD k default).f < x.n /\ 0 <= (x.es.getD k default).t /\ (x.es.getD k default).t < x.n /\ ((1 <= (x.es.getD k default).d /\ (x.es.getD k default).d <= 1048576) ∨ (x.es.getD k default).d = 4611686018427387904))) : rightB x = false := by
 have : x.es.all (edVB x.n) = false := by
  rw [Bool.eq_false_iff]
  intro h
  exact hb (of_decide_eq_true (all_at (d := default) h (show k < x.es.length by omega)))
 unfold rightB; rw [this, Bool.and_false]
theorem right_ok {x : NewX} {k : Nat} (h : 1 <= x.n /\ x.n <= 12 /\ x.es.length <= 40) (h1 : k <= x.es.length /\ (x.es.take k).all (edVB x.n) = true) (h2 : ¬ (k : Int) < x.es.length) : rightB x = true := by
 unfold rightB; rw [decide_eq_true h, take_all h1 h2]; rfl
set_option maxRecDepth 100000 in
theorem right_keeps : Keeps cfgNv Try.f23 rightC rightI := Eq.mp (show ((∀ x1 : NewX, (True -> (((decide (x1.n < (1 : Int)) = false)-> (((decide (12 < x1.n) = false)-> (((decide (40 < (x1.es.length : Int)) = true)-> ((false = rightB x1)/\True))/\((decide (40 < (x1.es.length : Int)) = false)-> (∃ x7 : Nat, ((((x7 <= x1.es.length)/\(List.all (List.take x7 x1.es) (edVB x1.n) = true))/\(((0 = (x7 : Int))/\((decide (40 < (x1.es.length : Int)) = decide (40 < (x1.es.length : Int)))/\((decide (40 < (x1.es.length : Int)) = decide (40 < (x1.es.length : Int)))/\(((x1.es.length : Int) = (x1.es.length : Int))/\((0=0 /\ x1.es.length = x1.es.length)/\((0=0/\((1 : Nat) = (1 : Nat)))/\((decide (12 < x1.n) = decide (12 < x1.n))/\((decide (12 < x1.n) = decide (12 < x1.n))/\((decide (12 < x1.n) = decide (12 < x1.n))/\(x1.n = x1.n/\((0=0 /\ 0=0)/\((decide (x1.n < (1 : Int)) = decide (x1.n < (1 : Int)))/\((decide (x1.n < (1 : Int)) = decide (x1.n < (1 : Int)))/\(x1.n = x1.n/\((0=0 /\ 0=0)/\((0=0 /\ 0=0)/\((x1.n = x1.n/\((0=0 /\ x1.es.length = x1.es.length)/\True))/\True)))))))))))))))))/\((x1.n = x1.n/\((0=0 /\ x1.es.length = x1.es.length)/\True))/\(((RLe x1.es.length x1.es.length)/\(RowsEq [.int .i64, .int .i64, .int .i64] x1.es.length (encL encE x1.es) (encL encE x1.es)))/\True))))/\(∀ x8 : Nat, ((x8 <= x1.es.length /\ List.all (List.take x8 x1.es) (edVB x1.n) = true)-> (((decide ((x8 : Int) < (x1.es.length : Int)) = true)-> ((((0 : Int) <= (x8 : Int))/\((x8 : Int) < (x1.es.length : Int)))/\((0 + Int.toNat (x8 : Int) < x1.es.length)/\(((decide ((x1.es.getD (0 + Int.toNat (x8 : Int)) default).f < (0 : Int)) = false)-> (((decide (x1.n <= (x1.es.getD (0 + Int.toNat (x8 : Int)) default).f) = false)-> (((decide ((x1.es.getD (0 + Int.toNat (x8 : Int)) default).t < (0 : Int)) = false)-> (((decide (x1.n <= (x1.es.getD (0 + Int.toNat (x8 : Int)) default).t) = false)-> (((decide ((x1.es.getD (0 + Int.toNat (x8 : Int)) default).d < (1 : Int)) = false)-> (((decide (1048576 < (x1.es.getD (0 + Int.toNat (x8 : Int)) default).d) = true)-> (∃ x17 : Unit, (True/\(True/\(True/\(((decide ((x1.es.getD (0 + Int.toNat (x8 : Int)) default).d ≠ (4611686018427387904 : Int)) = true)-> ((false = rightB x1)/\True))/\((decide ((x1.es.getD (0 + Int.toNat (x8 : Int)) default).d ≠ (4611686018427387904 : Int)) = false)-> ((((-9223372036854775808 : Int) <= (x8 : Int) + 1)/\((x8 : Int) + 1 <= (9223372036854775807 : Int)))/\(∃ x20 : Nat, ((x1.es.length - x20 < x1.es.length - x8)/\(((x20 <= x1.es.length)/\(List.all (List.take x20 x1.es) (edVB x1.n) = true))/\((((x8 : Int) + 1 = (x20 : Int))/\((decide (40 < (x1.es.length : Int)) = decide (40 < (x1.es.length : Int)))/\((decide (40 < (x1.es.length : Int)) = decide (40 < (x1.es.length : Int)))/\(((x1.es.length : Int) = (x1.es.length : Int))/\((0=0 /\ x1.es.length = x1.es.length)/\((0=0/\((1 : Nat) = (1 : Nat)))/\((decide (12 < x1.n) = decide (12 < x1.n))/\((decide (12 < x1.n) = decide (12 < x1.n))/\((decide (12 < x1.n) = decide (12 < x1.n))/\(x1.n = x1.n/\((0=0 /\ 0=0)/\((decide (x1.n < (1 : Int)) = decide (x1.n < (1 : Int)))/\((decide (x1.n < (1 : Int)) = decide (x1.n < (1 : Int)))/\(x1.n = x1.n/\((0=0 /\ 0=0)/\((0=0 /\ 0=0)/\((x1.n = x1.n/\((0=0 /\ x1.es.length = x1.es.length)/\True))/\True)))))))))))))))))/\((x1.n = x1.n/\((0=0 /\ x1.es.length = x1.es.length)/\True))/\(((RLe x1.es.length x1.es.length)/\(RowsEq [.int .i64, .int .i64, .int .i64] x1.es.length (encL encE x1.es) (encL encE x1.es)))/\True))))))))))))))/\((decide (1048576 < (x1.es.getD (0 + Int.toNat (x8 : Int)) default).d) = false)-> ((((-9223372036854775808 : Int) <= (x8 : Int) + 1)/\((x8 : Int) + 1 <= (9223372036854775807 : Int)))/\(∃ x22 : Nat, ((x1.es.length - x22 < x1.es.length - x8)/\(((x22 <= x1.es.length)/\(List.all (List.take x22 x1.es) (edVB x1.n) = true))/\((((x8 : Int) + 1 = (x22 : Int))/\((decide (40 < (x1.es.length : Int)) = decide (40 < (x1.es.length : Int)))/\((decide (40 < (x1.es.length : Int)) = decide (40 < (x1.es.length : Int)))/\(((x1.es.length : Int) = (x1.es.length : Int))/\((0=0 /\ x1.es.length = x1.es.length)/\((0=0/\((1 : Nat) = (1 : Nat)))/\((decide (12 < x1.n) = decide (12 < x1.n))/\((decide (12 < x1.n) = decide (12 < x1.n))/\((decide (12 < x1.n) = decide (12 < x1.n))/\(x1.n = x1.n/\((0=0 /\ 0=0)/\((decide (x1.n < (1 : Int)) = decide (x1.n < (1 : Int)))/\((decide (x1.n < (1 : Int)) = decide (x1.n < (1 : Int)))/\(x1.n = x1.n/\((0=0 /\ 0=0)/\((0=0 /\ 0=0)/\((x1.n = x1.n/\((0=0 /\ x1.es.length = x1.es.length)/\True))/\True)))))))))))))))))/\((x1.n = x1.n/\((0=0 /\ x1.es.length = x1.es.length)/\True))/\(((RLe x1.es.length x1.es.length)/\(RowsEq [.int .i64, .int .i64, .int .i64] x1.es.length (encL encE x1.es) (encL encE x1.es)))/\True))))))))))/\((decide ((x1.es.getD (0 + Int.toNat (x8 : Int)) default).d < (1 : Int)) = true)-> ((false = rightB x1)/\True))))/\((decide (x1.n <= (x1.es.getD (0 + Int.toNat (x8 : Int)) default).t) = true)-> ((false = rightB x1)/\True))))/\((decide ((x1.es.getD (0 + Int.toNat (x8 : Int)) default).t < (0 : Int)) = true)-> ((false = rightB x1)/\True))))/\((decide (x1.n <= (x1.es.getD (0 + Int.toNat (x8 : Int)) default).f) = true)-> ((false = rightB x1)/\True))))/\((decide ((x1.es.getD (0 + Int.toNat (x8 : Int)) default).f < (0 : Int)) = true)-> ((false = rightB x1)/\True))))))/\((decide ((x8 : Int) < (x1.es.length : Int)) = false)-> ((true = rightB x1)/\True))))))))))/\((decide (12 < x1.n) = true)-> ((false = rightB x1)/\True))))/\((decide (x1.n < (1 : Int)) = true)-> ((false = rightB x1)/\True)))))) = (Keeps cfgNv Try.f23 rightC rightI) by kernel_rfl) (fun x1 => fun h2 => ⟨fun g3 => have h3 := of_decide_eq_false g3; ⟨fun g4 => have h4 := of_decide_eq_false g4; ⟨fun g5 => have h5 := of_decide_eq_true g5; ⟨(by exact (right_out (by omega)).symm),
 trivial⟩,
fun g6 => have h6 := of_decide_eq_false g6; ⟨((0 : Nat)),
⟨⟨(by (try dsimp only at *); omega),
(by (try dsimp only at *); grind)⟩,
⟨(by (try dsimp only at *); omega),rfl,rfl,rfl,
⟨rfl,rfl⟩,
⟨rfl,rfl⟩,rfl,rfl,rfl,rfl,
⟨rfl,rfl⟩,rfl,rfl,rfl,
⟨rfl,rfl⟩,
⟨rfl,rfl⟩,
⟨rfl,
⟨rfl,rfl⟩,trivial⟩,trivial⟩,
⟨rfl,
⟨rfl,rfl⟩,trivial⟩,
⟨⟨Nat.le_refl _⟩,RowsEq.rfl'⟩,trivial⟩,
fun x8 => fun h9 => ⟨fun g10 => have h10 := of_decide_eq_true g10; ⟨⟨(by (try dsimp only at *); omega),
(by (try dsimp only at *); omega)⟩,
(by (try dsimp only at *); omega),
fun g11 => have h11 := of_decide_eq_false g11; ⟨fun g12 => have h12 := of_decide_eq_false g12; ⟨fun g13 => have h13 := of_decide_eq_false g13; ⟨fun g14 => have h14 := of_decide_eq_false g14; ⟨fun g15 => have h15 := of_decide_eq_false g15; ⟨fun g16 => have h16 := of_decide_eq_true g16; ⟨(default),trivial,trivial,trivial,
fun g18 => have h18 := of_decide_eq_true g18; ⟨(by (try dsimp only at *); (simp only [nat0] at *; exact (right_bad ‹_› (by omega)).symm)),trivial⟩,
fun g19 => have h19 := of_decide_eq_false g19; ⟨⟨(by (try dsimp only at *); omega),
(by (try dsimp only at *); omega)⟩,
(x8 + (1 : Nat)),
(by (try dsimp only at *); omega),
⟨(by (try dsimp only at *); omega),
(by (try dsimp only at *); exact all_succ (d := default) (show x8 < x1.es.length by omega) h9.2 (decide_eq_true (by simp only [nat0] at *; omega)))⟩,
⟨(by (try dsimp only at *); omega),rfl,rfl,rfl,
⟨rfl,rfl⟩,
⟨rfl,rfl⟩,rfl,rfl,rfl,rfl,
⟨rfl,rfl⟩,rfl,rfl,rfl,
⟨rfl,rfl⟩,
⟨rfl,rfl⟩,
⟨rfl,
⟨rfl,rfl⟩,trivial⟩,trivial⟩,
⟨rfl,
⟨rfl,rfl⟩,trivial⟩,
⟨⟨Nat.le_refl _⟩,RowsEq.rfl'⟩,trivial⟩⟩,
fun g21 => have h21 := of_decide_eq_false g21; ⟨⟨(by (try dsimp only at *); omega),
(by (try dsimp only at *); omega)⟩,
(x8 + (1 : Nat)),
(by (try dsimp only at *); omega),
⟨(by (try dsimp only at *); omega),
(by (try dsimp only at *); exact all_succ (d := default) (show x8 < x1.es.length by omega) h9.2 (decide_eq_true (by simp only [nat0] at *; omega)))⟩,
⟨(by (try dsimp only at *); omega),rfl,rfl,rfl,
⟨rfl,rfl⟩,
⟨rfl,rfl⟩,rfl,rfl,rfl,rfl,
⟨rfl,rfl⟩,rfl,rfl,rfl,
⟨rfl,rfl⟩,
⟨rfl,rfl⟩,
⟨rfl,
⟨rfl,rfl⟩,trivial⟩,trivial⟩,
⟨rfl,
⟨rfl,rfl⟩,trivial⟩,
⟨⟨Nat.le_refl _⟩,RowsEq.rfl'⟩,trivial⟩⟩,
fun g23 => have h23 := of_decide_eq_true g23; ⟨(by (try dsimp only at *); (simp only [nat0] at *; exact (right_bad ‹_› (by omega)).symm)),trivial⟩⟩,
fun g24 => have h24 := of_decide_eq_true g24; ⟨(by (try dsimp only at *); (simp only [nat0] at *; exact (right_bad ‹_› (by omega)).symm)),trivial⟩⟩,
fun g25 => have h25 := of_decide_eq_true g25; ⟨(by (try dsimp only at *); (simp only [nat0] at *; exact (right_bad ‹_› (by omega)).symm)),trivial⟩⟩,
fun g26 => have h26 := of_decide_eq_true g26; ⟨(by (try dsimp only at *); (simp only [nat0] at *; exact (right_bad ‹_› (by omega)).symm)),trivial⟩⟩,
fun g27 => have h27 := of_decide_eq_true g27; ⟨(by (try dsimp only at *); (simp only [nat0] at *; exact (right_bad ‹_› (by omega)).symm)),trivial⟩⟩,
fun g28 => have h28 := of_decide_eq_false g28; ⟨(by (try dsimp only at *); exact (right_ok (by omega) ‹_› ‹_›).symm),trivial⟩⟩⟩⟩,
fun g29 => have h29 := of_decide_eq_true g29; ⟨(by (try dsimp only at *); exact (right_out (by omega)).symm),trivial⟩⟩,
fun g30 => have h30 := of_decide_eq_true g30; ⟨(by (try dsimp only at *); exact (right_out (by omega)).symm),trivial⟩⟩)
theorem right_good : Good Try.prog 23 rightC /\ FnOk Try.prog 23 := good_of tok conNv (fn := Try.f23) rfl (by decide +kernel) (fun _ => rfl) right_keeps
end Go.Sym