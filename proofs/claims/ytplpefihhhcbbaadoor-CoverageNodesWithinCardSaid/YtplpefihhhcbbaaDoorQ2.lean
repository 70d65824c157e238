import Derived.Test.YtplpefihhhcbbaaDoorN3
import Derived.Test.YtplpefihhhcbbaaDoorXD
namespace Go.Sym
set_option linter.unusedVariables false
set_option linter.unusedSimpArgs false
open Go.Proofs
def hasC : CT where
 X := BitX
 pre := fun x => WOk x.ws
 args := fun x => [setV x.ws 100000, .i .i64 x.n]
 g0 := fun x => setH x.ws .bor 100000
 res := fun x => .b (decide (0 <= x.n) && hasW x.ws x.n.toNat)
 g1 := fun x => []
set_option maxRecDepth 100000 in
theorem has_keeps : Keeps cfgN0 Tryd.f23 hasC noIv := Eq.mp (show ((∀ x1 : BitX, ((WOk x1.ws)-> (((decide (szW x1.ws = (0 : Nat)) = false)-> (((decide (x1.n < (0 : Int)) = false)-> (((decide ((4096 : Int) <= x1.n) = true)-> ((false = (decide ((0 : Int) <= x1.n) && hasW x1.ws (Int.toNat x1.n)))/\True))/\((decide ((4096 : Int) <= x1.n) = false)-> ((((0 : Int) <= x1.n)/\(((0 : Int) < 64)/\(((-9223372036854775808 : Int) <= x1.n / 64)/\(x1.n / 64 <= (9223372036854775807 : Int)))))/\((szW x1.ws ≠ (0 : Nat))/\((((0 : Int) <= x1.n / 64)/\(x1.n / 64 < (↑(64 : Nat) : Int)))/\((0 + Int.toNat (x1.n / 64) < szW x1.ws)/\((((0 : Int) <= x1.n)/\((0 : Int) < 64))/\(((0 : Int) <= x1.n % 64)/\((decide (IntKind.wrap .u64 (↑(BitVec.toNat (BitVec.ofInt (IntKind.bits .u64) (Int.fdiv (↑(x1.ws.getD (0 + Int.toNat (x1.n / 64)) default) : Int) ((2 : Int) ^ min (Int.toNat (x1.n % 64)) (IntKind.bits .u64))) &&& BitVec.ofInt (IntKind.bits .u64) (1 : Int))) : Int) = 1) = (decide ((0 : Int) <= x1.n) && hasW x1.ws (Int.toNat x1.n)))/\True))))))))))/\((decide (x1.n < (0 : Int)) = true)-> ((false = (decide ((0 : Int) <= x1.n) && hasW x1.ws (Int.toNat x1.n)))/\True))))/\((decide (szW x1.ws = (0 : Nat)) = true)-> ((false = (decide ((0 : Int) <= x1.n) && hasW x1.ws (Int.toNat x1.n)))/\True)))))) = (Keeps cfgN0 Tryd.f23 hasC noIv) by kernel_rfl) (fun x1 => fun h2 => ⟨fun g3 => have h3 := of_decide_eq_false g3; ⟨fun g4 => have h4 := of_decide_eq_false g4; ⟨fun g5 => have h5 := of_decide_eq_true g5; ⟨(by
        (rw [hasW_big h2 (by omega), Bool.and_false])),trivial⟩,
fun g6 => have h6 := of_decide_eq_false g6; ⟨⟨(by omega),
(by omega),
(by omega),
(by omega)⟩,
(by omega),
⟨(by omega),
(by omega)⟩,
(by
       (rw [szW_full h3]; omega)),
⟨(by omega),
(by omega)⟩,
(by omega),
(by
       exact has_bit h2 (by omega)),trivial⟩⟩,
fun g7 => have h7 := of_decide_eq_true g7; ⟨(by grind),trivial⟩⟩,
fun g8 => have h8 := of_decide_eq_true g8; ⟨(by
       (rw [szW_zero.1 h8, hasW_nil, Bool.and_false])),trivial⟩⟩)
def equalC : CT where
 X := TwoX
 pre := fun x => WOk x.a /\ WOk x.b
 args := fun x => [setV x.a 100000, setV x.b 100001]
 g0 := fun x => setH x.a .bor 100000 ++ setH x.b .bor 100001
 res := fun x => .b (decide (x.a = x.b))
 g1 := fun x => []
set_option maxRecDepth 100000 in
theorem equal_keeps : Keeps cfgN0 Tryd.f26 equalC noIv := Eq.mp (show ((∀ x1 : TwoX, ((WOk x1.a /\ WOk x1.b)-> (((decide (szW x1.a = (0 : Nat)) = false)-> (((decide (szW x1.b = (0 : Nat)) = true)-> ((szW x1.a = (0 : Nat) ∨ szW x1.b = (0 : Nat))/\((decide (szW x1.a = (0 : Nat) /\ szW x1.b = (0 : Nat)) = decide (x1.a = x1.b))/\True)))/\((decide (szW x1.b = (0 : Nat)) = false)-> ((szW x1.a ≠ (0 : Nat))/\((0=0/\((64 : Nat) <= szW x1.a))/\((szW x1.b ≠ (0 : Nat))/\((0=0/\((64 : Nat) <= szW x1.b))/\((decide (∀ (r : Nat), r < (64 : Nat)-> (↑(x1.a.getD r default) : Int) = (↑(x1.b.getD r default) : Int)) = decide (x1.a = x1.b))/\True))))))))/\((decide (szW x1.a = (0 : Nat)) = true)-> ((szW x1.a = (0 : Nat) ∨ szW x1.b = (0 : Nat))/\((decide (szW x1.a = (0 : Nat) /\ szW x1.b = (0 : Nat)) = decide (x1.a = x1.b))/\True))))))) = (Keeps cfgN0 Tryd.f26 equalC noIv) by kernel_rfl) (fun x1 => fun h2 => ⟨fun g3 => have h3 := of_decide_eq_false g3; ⟨fun g4 => have h4 := of_decide_eq_true g4; ⟨(by omega),
(by
       (apply decide_eq_decide.2; rw [szW_zero, szW_zero]; have q := szW_zero.1 h4; exact ⟨fun h => h.1.trans h.2.symm, fun h => ⟨h.trans q, q⟩⟩)),trivial⟩,
fun g5 => have h5 := of_decide_eq_false g5; ⟨(by omega),
⟨rfl,
(by (rw [szW_full ‹_›]; exact Nat.le_refl _))⟩,
(by omega),
⟨rfl,
(by (rw [szW_full ‹_›]; exact Nat.le_refl _))⟩,
(by
       (apply decide_eq_decide.2; exact ⟨fun h => words_eq h2.1 h2.2 h, fun h r _ => by rw [h]⟩)),trivial⟩⟩,
fun g6 => have h6 := of_decide_eq_true g6; ⟨(by omega),
(by
       (apply decide_eq_decide.2; rw [szW_zero, szW_zero]; have q := szW_zero.1 h6; exact ⟨fun h => h.1.trans h.2.symm, fun h => ⟨q, h ▸ q⟩⟩)),trivial⟩⟩)
theorem has_good : Good Tryd.prog 23 hasC /\ FnOk Tryd.prog 23 := good_of tok conN0 (fn := Tryd.f23) rfl (by decide +kernel) (fun _ => rfl) has_keeps
theorem equal_good : Good Tryd.prog 26 equalC /\ FnOk Tryd.prog 26 := good_of tok conN0 (fn := Tryd.f26) rfl (by decide +kernel) (fun _ => rfl) equal_keeps
end Go.Sym