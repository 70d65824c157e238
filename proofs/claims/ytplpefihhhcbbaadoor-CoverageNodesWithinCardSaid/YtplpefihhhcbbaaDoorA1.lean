import Derived.Test.YtplpefihhhcbbaaDoorXD
import Derived.Test.YtplpefihhhcbbaaDoorRows
import Derived.Lib.TrailingZeros
namespace Go.Sym
set_option linter.unusedVariables false
open Go.Proofs
def T : List (Nat × TI) := [
 (2, ⟨.int .i64, 1, 8, [.i .i64 0]⟩),
 (3, ⟨.int .i64, 1, 8, [.i .i64 0]⟩),
 (4, ⟨.bool, 1, 1, [.bt false]⟩),
 (5, ⟨.int .u8, 1, 1, [.i .u8 0]⟩),
 (22, ⟨.slice 68, 1, 24, [.ns]⟩),
 (23, ⟨.struct [(0, 3), (1, 22)], 2, 32, [.i .i64 0, .ns]⟩),
 (24, ⟨.struct [(0, 3), (1, 22)], 2, 32, [.i .i64 0, .ns]⟩),
 (25, ⟨.slice 2, 1, 24, [.ns]⟩),
 (26, ⟨.slice 49, 1, 24, [.ns]⟩),
 (27, ⟨.struct [(0, 24), (2, 25), (3, 26)], 4, 80, [.i .i64 0, .ns, .ns, .ns]⟩),
 (28, ⟨.struct [(0, 24), (2, 25), (3, 26)], 4, 80, [.i .i64 0, .ns, .ns, .ns]⟩),
 (29, ⟨.slice 3, 1, 24, [.ns]⟩),
 (31, ⟨.ptr 98, 1, 8, [.np]⟩),
 (37, ⟨.ptr 74, 1, 8, [.np]⟩),
 (38, ⟨.struct [(0, 37)], 1, 8, [.np]⟩),
 (39, ⟨.struct [(0, 37)], 1, 8, [.np]⟩),
 (49, ⟨.struct [(0, 3), (1, 3), (2, 3), (3, 3), (4, 3), (5, 2), (6, 2), (7, 2), (8, 2), (9, 2)], 10, 80, [.i .i64 0, .i .i64 0, .i .i64 0, .i .i64 0, .i .i64 0, .i .i64 0, .i .i64 0, .i .i64 0, .i .i64 0, .i .i64 0]⟩),
 (64, ⟨.int .i64, 1, 8, [.i .i64 0]⟩),
 (67, ⟨.struct [(0, 3), (1, 3), (2, 2)], 3, 24, [.i .i64 0, .i .i64 0, .i .i64 0]⟩),
 (68, ⟨.struct [(0, 3), (1, 3), (2, 2)], 3, 24, [.i .i64 0, .i .i64 0, .i .i64 0]⟩),
 (72, ⟨.int .u64, 1, 8, [.i .u64 0]⟩),
 (73, ⟨.arr 64 72, 64, 512, [.i .u64 0, .i .u64 0, .i .u64 0, .i .u64 0, .i .u64 0, .i .u64 0, .i .u64 0, .i .u64 0, .i .u64 0, .i .u64 0, .i .u64 0, .i .u64 0, .i .u64 0, .i .u64 0, .i .u64 0, .i .u64 0, .i .u64 0, .i .u64 0, .i .u64 0, .i .u64 0, .i .u64 0, .i .u64 0, .i .u64 0, .i .u64 0, .i .u64 0, .i .u64 0, .i .u64 0, .i .u64 0, .i .u64 0, .i .u64 0, .i .u64 0, .i .u64 0, .i .u64 0, .i .u64 0, .i .u64 0, .i .u64 0, .i .u64 0, .i .u64 0, .i .u64 0, .i .u64 0, .i .u64 0, .i .u64 0, .i .u64 0, .i .u64 0, .i .u64 0, .i .u64 0, .i .u64 0, .i .u64 0, .i .u64 0, .i .u64 0, .i .u64 0, .i .u64 0, .i .u64 0, .i .u64 0, .i .u64 0, .i .u64 0, .i .u64 0, .i .u64 0, .i .u64 0, .i .u64 0, .i .u64 0, .i .u64 0, .i .u64 0, .i .u64 0]⟩),
 (74, ⟨.arr 64 72, 64, 512, [.i .u64 0, .i .u64 0, .i .u64 0, .i .u64 0, .i .u64 0, .i .u64 0, .i .u64 0, .i .u64 0, .i .u64 0, .i .u64 0, .i .u64 0, .i .u64 0, .i .u64 0, .i .u64 0, .i .u64 0, .i .u64 0, .i .u64 0, .i .u64 0, .i .u64 0, .i .u64 0, .i .u64 0, .i .u64 0, .i .u64 0, .i .u64 0, .i .u64 0, .i .u64 0, .i .u64 0, .i .u64 0, .i .u64 0, .i .u64 0, .i .u64 0, .i .u64 0, .i .u64 0, .i .u64 0, .i .u64 0, .i .u64 0, .i .u64 0, .i .u64 0, .i .u64 0, .i .u64 0, .i .u64 0, .i .u64 0, .i .u64 0, .i .u64 0, .i .u64 0, .i .u64 0, .i .u64 0, .i .u64 0, .i .u64 0, .i .u64 0, .i .u64 0, .i .u64 0, .i .u64 0, .i .u64 0, .i .u64 0, .i .u64 0, .i .u64 0, .i .u64 0, .i .u64 0, .i .u64 0, .i .u64 0, .i .u64 0, .i .u64 0, .i .u64 0]⟩),
 (80, ⟨.ptr 83, 1, 8, [.np]⟩),
 (81, ⟨.slice 25, 1, 24, [.ns]⟩),
 (82, ⟨.struct [(0, 81), (1, 29), (2, 29), (3, 4), (4, 2), (5, 29)], 6, 112, [.ns, .ns, .ns, .bt false, .i .i64 0, .ns]⟩),
 (83, ⟨.struct [(0, 81), (1, 29), (2, 29), (3, 4), (4, 2), (5, 29)], 6, 112, [.ns, .ns, .ns, .bt false, .i .i64 0, .ns]⟩),
 (96, ⟨.slice 29, 1, 24, [.ns]⟩),
 (97, ⟨.struct [(0, 22), (1, 96), (2, 96)], 3, 72, [.ns, .ns, .ns]⟩),
 (98, ⟨.struct [(0, 22), (1, 96), (2, 96)], 3, 72, [.ns, .ns, .ns]⟩),
 (104, ⟨.slice 2, 1, 24, [.ns]⟩),
 (111, ⟨.int .u64, 1, 8, [.i .u64 0]⟩),
 (112, ⟨.arr 64 5, 64, 64, [.i .u8 0, .i .u8 0, .i .u8 0, .i .u8 0, .i .u8 0, .i .u8 0, .i .u8 0, .i .u8 0, .i .u8 0, .i .u8 0, .i .u8 0, .i .u8 0, .i .u8 0, .i .u8 0, .i .u8 0, .i .u8 0, .i .u8 0, .i .u8 0, .i .u8 0, .i .u8 0, .i .u8 0, .i .u8 0, .i .u8 0, .i .u8 0, .i .u8 0, .i .u8 0, .i .u8 0, .i .u8 0, .i .u8 0, .i .u8 0, .i .u8 0, .i .u8 0, .i .u8 0, .i .u8 0, .i .u8 0, .i .u8 0, .i .u8 0, .i .u8 0, .i .u8 0, .i .u8 0, .i .u8 0, .i .u8 0, .i .u8 0, .i .u8 0, .i .u8 0, .i .u8 0, .i .u8 0, .i .u8 0, .i .u8 0, .i .u8 0, .i .u8 0, .i .u8 0, .i .u8 0, .i .u8 0, .i .u8 0, .i .u8 0, .i .u8 0, .i .u8 0, .i .u8 0, .i .u8 0, .i .u8 0, .i .u8 0, .i .u8 0, .i .u8 0]⟩),
 (113, ⟨.ptr 104, 1, 8, [.np]⟩)]
theorem tok : TOk Tryd.prog T := tokB_spec (by decide +kernel)
def tabV : Array Value := (Go.Lib.deBruijn64tab.map fun n : Nat => Value.int .u8 (n : Int)).toArray
instance glob39 : Glob where
 ok ρ := ∃ T fz, ρ.z 0 = some (.cells tabV T fz)
 mono := fun h ⟨T, fz, e⟩ => ⟨T, fz, h _ _ e⟩
end Go.Sym