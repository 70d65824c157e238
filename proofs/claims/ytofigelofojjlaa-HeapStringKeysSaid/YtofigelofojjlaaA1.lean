/- law03: types, data. -/
import Derived.Test.YtofigelofojjlaaH1
import Derived.Test.YtofigelofojjlaaRows
namespace Go.Sym
set_option linter.unusedVariables false
set_option linter.unusedSimpArgs false
def T : List (Nat × TI) := [
  (2, ⟨.int .i64, 1, 8, [.i .i64 0]⟩),
  (3, ⟨.int .i64, 1, 8, [.i .i64 0]⟩),
  (4, ⟨.bool, 1, 1, [.bt false]⟩),
  (5, ⟨.int .u8, 1, 1, [.i .u8 0]⟩),
  (9, ⟨.str, 1, 16, [.s ByteArray.empty]⟩),
  (22, ⟨.slice 57, 1, 24, [.ns]⟩),
  (24, ⟨.ptr 65, 1, 8, [.np]⟩),
  (25, ⟨.slice 29, 1, 24, [.ns]⟩),
  (29, ⟨.struct [(0, 3), (1, 2)], 2, 16, [.i .i64 0, .i .i64 0]⟩),
  (39, ⟨.slice 2, 1, 24, [.ns]⟩),
  (43, ⟨.slice 9, 1, 24, [.ns]⟩),
  (44, ⟨.ptr 71, 1, 8, [.np]⟩),
  (53, ⟨.slice 3, 1, 24, [.ns]⟩),
  (57, ⟨.struct [(0, 5), (1, 3), (2, 2)], 3, 24, [.i .u8 0, .i .i64 0, .i .i64 0]⟩),
  (62, ⟨.slice 68, 1, 24, [.ns]⟩),
  (63, ⟨.map 3 3, 1, 8, [.nm]⟩),
  (65, ⟨.struct [(0, 62), (1, 63)], 2, 32, [.ns, .nm]⟩),
  (68, ⟨.struct [(0, 3), (1, 2)], 2, 16, [.i .i64 0, .i .i64 0]⟩),
  (69, ⟨.slice 73, 1, 24, [.ns]⟩),
  (71, ⟨.struct [(0, 69), (1, 63)], 2, 32, [.ns, .nm]⟩),
  (73, ⟨.struct [(0, 3), (1, 9)], 2, 24, [.i .i64 0, .s ByteArray.empty]⟩)]
open Go.Proofs
theorem tok : TOk Try.prog T := tokB_spec (by decide +kernel)
def cfg0 : Cfg := ⟨T, [], [], noInv, 0⟩
theorem con0 : ConOk Try.prog cfg0 := ConL.ok .nil
end Go.Sym
