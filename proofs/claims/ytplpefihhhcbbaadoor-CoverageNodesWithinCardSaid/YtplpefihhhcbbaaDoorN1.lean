import Derived.Test.YtplpefihhhcbbaaDoorP1
import Derived.Test.YtplpefihhhcbbaaDoorXD
namespace Go.Sym
set_option linter.unusedVariables false
set_option linter.unusedSimpArgs false
open Go.Proofs
def kW : List Kd := [.int .u64]
def encW (n : Nat) (_ : Nat) : D := .i n
def cfgN0 : Cfg := ⟨T, [], [], noInv, 40, {}⟩
structure BitX where
 ws : List Nat
 n : Int
def addC : CT where
 X := BitX
 pre := fun x => WOk x.ws /\ 0 <= x.n /\ x.n < 4096
 args := fun x => [.p 100000 0 0, .i .i64 x.n]
 g0 := fun x => [(100000, .rows .own kW 64 (encL encW x.ws))]
 res := fun x => .tup []
 g1 := fun x => [(100000, .rows .own kW 64 (encL encW (addW x.ws x.n)))]
set_option maxRecDepth 100000 in
theorem add_keeps : Keeps cfgN0 Tryd.f34 addC noIv := Eq.mp (show ((∀ x1 : BitX, ((WOk x1.ws/\(0 : Int) <= x1.n /\ x1.n < (4096 : Int))-> ((((0 : Int) <= x1.n)/\(((0 : Int) < 64)/\(((-9223372036854775808 : Int) <= x1.n / 64)/\(x1.n / 64 <= (9223372036854775807 : Int)))))/\((((0 : Int) <= x1.n / 64)/\(x1.n / 64 < (↑(64 : Nat) : Int)))/\((0 + Int.toNat (x1.n / 64) < (64 : Nat))/\((((0 : Int) <= x1.n)/\((0 : Int) < 64))/\(((0 : Int) <= x1.n % 64)/\((((0 : Int) <= x1.n / 64)/\(x1.n / 64 < (↑(64 : Nat) : Int)))/\(((0 + Int.toNat (x1.n / 64) < (64 : Nat))/\(True/\True))/\(True/\((RLe 64 64/\(RowsEq [.int .u64] 64 (setRow (encL encW x1.ws) (0 + Int.toNat (x1.n / 64)) 0 (D.i (IntKind.wrap .u64 (↑(BitVec.toNat (BitVec.ofInt (IntKind.bits .u64) (↑(x1.ws.getD (0 + Int.toNat (x1.n / 64)) default) : Int) ||| BitVec.ofInt (IntKind.bits .u64) (IntKind.wrap .u64 ((1 : Int) * 2 ^ min (Int.toNat (x1.n % 64)) (IntKind.bits .u64))))) : Int)) :: @List.nil D)) (encL encW (addW x1.ws x1.n))))/\True)))))))))))) = (Keeps cfgN0 Tryd.f34 addC noIv) by kernel_rfl) (fun x1 => fun h2 => ⟨⟨(by omega),
(by omega),
(by omega),
(by omega)⟩,
⟨(by omega),
(by omega)⟩,
(by omega),
⟨(by omega),
(by omega)⟩,
(by omega),
⟨(by omega),
(by omega)⟩,
⟨(by omega),trivial,trivial⟩,trivial,
⟨⟨Nat.le_refl _⟩,
(by
       (have e1 : (x1.n / 64).toNat = x1.n.toNat / 64 := (by omega); have e2 : (x1.n % 64).toNat = x1.n.toNat % 64 := (by omega); have h64 : 0 <= x1.n % 64 /\ x1.n % 64 < 64 := (by omega); rw [shl_u64 h64, or_u64 (h2.1.lt _) (pow_lt64 (by omega)), e2, Nat.zero_add, e1]; exact rowsEq_set (v := _) (by rw [h2.1.len]; omega) (by simp only [rowEq, Kd.eqv, kW]; exact ⟨rfl, trivial⟩)))⟩,trivial⟩)
theorem conN0 : ConOk Tryd.prog cfgN0 := ConL.ok .nil
theorem add_good : Good Tryd.prog 34 addC /\ FnOk Tryd.prog 34 := good_of tok conN0 (fn := Tryd.f34) rfl (by decide +kernel) (fun _ => rfl) add_keeps
end Go.Sym
namespace Go.Sym
set_option linter.unusedVariables false
set_option linter.unusedSimpArgs false
open Go.Proofs
def szW (ws : List Nat) : Nat := if ws = nilW then 0 else 64
theorem szW_zero {ws : List Nat} : szW ws = 0 ↔ ws = nilW := by unfold szW; split <;> simp_all
theorem szW_le (ws : List Nat) : szW ws <= 64 := by unfold szW; split <;> omega
theorem szW_full {ws : List Nat} (h : ¬ szW ws = 0) : szW ws = 64 := by unfold szW at *; split at h <;> simp_all
def setV (ws : List Nat) (l : Nat) : SV := .agg [.q l (szW ws)]
def setH (ws : List Nat) (m : Md) (l : Nat) : List (Nat × Blk) := [(l, .rows m kW (szW ws) (encL encW ws))]
def setOfC : CT where
 X := List Nat
 pre := WOk
 args := fun ws => [.p 100000 0 0]
 g0 := fun ws => [(100000, .rows .own kW 64 (encL encW ws))]
 res := fun ws => setV ws 1
 g1 := fun ws => [(100000, .dead), (1, .rows .own kW (szW ws) (encL encW ws))]
set_option maxRecDepth 100000 in
theorem setOf_keeps : Keeps cfgN0 Tryd.f35 setOfC noIv := Eq.mp (show ((∀ x1 : List Nat, ((WOk x1)-> ((0=0/\((64 : Nat) <= (64 : Nat)))/\(((decide (∀ (r : Nat), r < (64 : Nat)-> (↑(x1.getD r default) : Int) = D.toI (D.i 0)) = true)-> (((szW x1 = (0 : Nat))/\True)/\(True/\((szW x1 = (0 : Nat))/\True))))/\((decide (∀ (r : Nat), r < (64 : Nat)-> (↑(x1.getD r default) : Int) = D.toI (D.i 0)) = false)-> (((0=0/\(0=0/\(szW x1 ≠ (0 : Nat))))/\True)/\(True/\(((RLe (szW x1) 64)/\(RowsEq [.int .u64] (szW x1) (encL encW x1) (encL encW x1)))/\True))))))))) = (Keeps cfgN0 Tryd.f35 setOfC noIv) by kernel_rfl) (fun x1 => fun h2 => ⟨⟨rfl,
(by omega)⟩,
fun g3 => have h3 := of_decide_eq_true g3; ⟨⟨(by exact szW_zero.2 (all_zero h2 h3)),trivial⟩,trivial,
(by exact szW_zero.2 (all_zero h2 h3)),trivial⟩,
fun g4 => have h4 := of_decide_eq_false g4; ⟨⟨⟨rfl,rfl,
(by exact fun hh => h4 (fun r _ => by rw [szW_zero.1 hh, nilW_at]; rfl))⟩,trivial⟩,trivial,
⟨⟨(by exact szW_le _)⟩,RowsEq.rfl'⟩,trivial⟩⟩)
structure TwoX where
 a : List Nat
 b : List Nat
end Go.Sym