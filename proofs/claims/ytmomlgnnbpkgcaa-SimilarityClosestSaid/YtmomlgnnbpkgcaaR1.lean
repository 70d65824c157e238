import Derived.Test.YtmomlgnnbpkgcaaS3
import Derived.Test.YtmomlgnnbpkgcaaXD
namespace Go.Sym
set_option linter.unusedVariables false
set_option linter.unusedSimpArgs false
open Go.Proofs
set_option maxHeartbeats 4000000
def neverC : CT where
 X := Unit
 pre := fun _ => True
 args := fun _ => []
 g0 := fun _ => []
 res := fun _ => .i .i64 4611686018427387904
 g1 := fun _ => []
set_option maxRecDepth 100000 in
theorem never_keeps : Keeps cfgN0 Try.f35 neverC noIv := Eq.mp (show ((∀ x1 : Unit, (True -> (((4611686018427387904 : Int) = 4611686018427387904)/\True)))) = (Keeps cfgN0 Try.f35 neverC noIv) by kernel_rfl) (fun x1 => fun h2 => ⟨rfl,trivial⟩)
theorem never_good : Good Try.prog 35 neverC /\ FnOk Try.prog 35 := good_of tok conN0 (fn := Try.f35) rfl (by decide +kernel) (fun _ => rfl) never_keeps
def cfgNv : Cfg := ⟨T, [], [(35, .one neverC)], noInv, 20, {}⟩
theorem conNv : ConOk Try.prog cfgNv := ConL.ok (.cons (ConL.one never_good) .nil)
set_option maxRecDepth 100000 in
theorem time_keeps : Keeps cfgNv Try.f41 travelC noIv := Eq.mp (show ((∀ x1 : TX, ((x1.i <= (1073741824 : Nat))-> (((decide ((x1.ts.length : Int) <= (x1.i : Int)) = false)-> ((((0 : Int) <= (x1.i : Int))/\((x1.i : Int) < (x1.ts.length : Int)))/\((0 + Int.toNat (x1.i : Int) < x1.ts.length)/\(((decide (x1.ts.getD (0 + Int.toNat (x1.i : Int)) default < 1) = false)-> ((((0 : Int) <= (x1.i : Int))/\((x1.i : Int) < (x1.ts.length : Int)))/\((0 + Int.toNat (x1.i : Int) < x1.ts.length)/\(((decide (1048576 < x1.ts.getD (0 + Int.toNat (x1.i : Int)) default) = true)-> (∃ x6 : Unit, (True/\(True/\(True/\(((4611686018427387904 : Int) = tt x1.ts x1.i)/\True))))))/\((decide (1048576 < x1.ts.getD (0 + Int.toNat (x1.i : Int)) default) = false)-> ((((0 : Int) <= (x1.i : Int))/\((x1.i : Int) < (x1.ts.length : Int)))/\((0 + Int.toNat (x1.i : Int) < x1.ts.length)/\((x1.ts.getD (0 + Int.toNat (x1.i : Int)) default = tt x1.ts x1.i)/\True))))))))/\((decide (x1.ts.getD (0 + Int.toNat (x1.i : Int)) default < 1) = true)-> (∃ x9 : Unit, (True/\(True/\(True/\(((4611686018427387904 : Int) = tt x1.ts x1.i)/\True))))))))))/\((decide ((x1.ts.length : Int) <= (x1.i : Int)) = true)-> (∃ x11 : Unit, (True/\(True/\(True/\(((4611686018427387904 : Int) = tt x1.ts x1.i)/\True)))))))))) = (Keeps cfgNv Try.f41 travelC noIv) by kernel_rfl) (fun x1 => fun h2 => ⟨fun g3 => have h3 := of_decide_eq_false g3; ⟨⟨(by omega),
(by omega)⟩,
(by omega),
fun g4 => have h4 := of_decide_eq_false g4; ⟨⟨(by omega),
(by omega)⟩,
(by omega),
fun g5 => have h5 := of_decide_eq_true g5; ⟨(default),trivial,trivial,trivial,
(by (try dsimp only at *); (try simp only [nat0] at *); rw [tt_no (by omega)]),trivial⟩,
fun g7 => have h7 := of_decide_eq_false g7; ⟨⟨(by (try dsimp only at *); omega),
(by (try dsimp only at *); omega)⟩,
(by (try dsimp only at *); omega),
(by (try dsimp only at *); (simp only [nat0] at *; rw [tt_yes (by omega)])),trivial⟩⟩,
fun g8 => have h8 := of_decide_eq_true g8; ⟨(default),trivial,trivial,trivial,
(by (try dsimp only at *); (try simp only [nat0] at *); rw [tt_no (by omega)]),trivial⟩⟩,
fun g10 => have h10 := of_decide_eq_true g10; ⟨(default),trivial,trivial,trivial,
(by (try dsimp only at *); (try simp only [nat0] at *); rw [tt_no (by omega)]),trivial⟩⟩)
theorem time_good : Good Try.prog 41 travelC /\ FnOk Try.prog 41 := good_of tok conNv (fn := Try.f41) rfl (by decide +kernel) (fun _ => rfl) time_keeps
end Go.Sym