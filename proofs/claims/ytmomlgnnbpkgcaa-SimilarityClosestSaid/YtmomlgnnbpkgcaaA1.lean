import Derived.Test.YtmomlgnnbpkgcaaXD
import Derived.Test.YtmomlgnnbpkgcaaRows
namespace Go.Sym
set_option linter.unusedVariables false
open Go.Proofs
def T : List (Nat × TI) := [
 (2, ⟨.int .i64, 1, 8, [.i .i64 0]⟩),
 (3, ⟨.int .i64, 1, 8, [.i .i64 0]⟩),
 (4, ⟨.bool, 1, 1, [.bt false]⟩),
 (5, ⟨.int .u8, 1, 1, [.i .u8 0]⟩),
 (6, ⟨.int .u8, 1, 1, [.i .u8 0]⟩),
 (9, ⟨.str, 1, 16, [.s ByteArray.empty]⟩),
 (22, ⟨.slice 67, 1, 24, [.ns]⟩),
 (23, ⟨.struct [(0, 3), (1, 22)], 2, 32, [.i .i64 0, .ns]⟩),
 (24, ⟨.struct [(0, 3), (1, 22)], 2, 32, [.i .i64 0, .ns]⟩),
 (25, ⟨.slice 2, 1, 24, [.ns]⟩),
 (26, ⟨.struct [(0, 24), (2, 25)], 3, 56, [.i .i64 0, .ns, .ns]⟩),
 (27, ⟨.struct [(0, 24), (2, 25)], 3, 56, [.i .i64 0, .ns, .ns]⟩),
 (28, ⟨.slice 3, 1, 24, [.ns]⟩),
 (29, ⟨.ptr 87, 1, 8, [.np]⟩),
 (36, ⟨.struct [(0, 2), (1, 3), (2, 9), (3, 28), (4, 3), (5, 2), (6, 25), (7, 28), (8, 2), (9, 4)], 10, 136, [.i .i64 0, .i .i64 0, .s ByteArray.empty, .ns, .i .i64 0, .i .i64 0, .ns, .ns, .i .i64 0, .bt false]⟩),
 (37, ⟨.struct [(0, 2), (1, 3), (2, 9), (3, 28), (4, 3), (5, 2), (6, 25), (7, 28), (8, 2), (9, 4)], 10, 136, [.i .i64 0, .i .i64 0, .s ByteArray.empty, .ns, .i .i64 0, .i .i64 0, .ns, .ns, .i .i64 0, .bt false]⟩),
 (38, ⟨.struct [(0, 2), (1, 2), (2, 3), (3, 9), (4, 28), (5, 3), (6, 2), (7, 4)], 8, 88, [.i .i64 0, .i .i64 0, .i .i64 0, .s ByteArray.empty, .ns, .i .i64 0, .i .i64 0, .bt false]⟩),
 (39, ⟨.struct [(0, 2), (1, 2), (2, 3), (3, 9), (4, 28), (5, 3), (6, 2), (7, 4)], 8, 88, [.i .i64 0, .i .i64 0, .i .i64 0, .s ByteArray.empty, .ns, .i .i64 0, .i .i64 0, .bt false]⟩),
 (40, ⟨.struct [(0, 37), (10, 39)], 18, 224, [.i .i64 0, .i .i64 0, .s ByteArray.empty, .ns, .i .i64 0, .i .i64 0, .ns, .ns, .i .i64 0, .bt false, .i .i64 0, .i .i64 0, .i .i64 0, .s ByteArray.empty, .ns, .i .i64 0, .i .i64 0, .bt false]⟩),
 (41, ⟨.struct [(0, 37), (10, 39)], 18, 224, [.i .i64 0, .i .i64 0, .s ByteArray.empty, .ns, .i .i64 0, .i .i64 0, .ns, .ns, .i .i64 0, .bt false, .i .i64 0, .i .i64 0, .i .i64 0, .s ByteArray.empty, .ns, .i .i64 0, .i .i64 0, .bt false]⟩),
 (42, ⟨.struct [(0, 2), (1, 2)], 2, 16, [.i .i64 0, .i .i64 0]⟩),
 (43, ⟨.struct [(0, 2), (1, 2)], 2, 16, [.i .i64 0, .i .i64 0]⟩),
 (47, ⟨.slice 37, 1, 24, [.ns]⟩),
 (48, ⟨.struct [(0, 47), (1, 39)], 9, 112, [.ns, .i .i64 0, .i .i64 0, .i .i64 0, .s ByteArray.empty, .ns, .i .i64 0, .i .i64 0, .bt false]⟩),
 (49, ⟨.struct [(0, 47), (1, 39)], 9, 112, [.ns, .i .i64 0, .i .i64 0, .i .i64 0, .s ByteArray.empty, .ns, .i .i64 0, .i .i64 0, .bt false]⟩),
 (55, ⟨.slice 58, 1, 24, [.ns]⟩),
 (58, ⟨.arr 2 2, 2, 16, [.i .i64 0, .i .i64 0]⟩),
 (60, ⟨.arr 4 2, 4, 32, [.i .i64 0, .i .i64 0, .i .i64 0, .i .i64 0]⟩),
 (63, ⟨.int .i64, 1, 8, [.i .i64 0]⟩),
 (66, ⟨.struct [(0, 3), (1, 3), (2, 2)], 3, 24, [.i .i64 0, .i .i64 0, .i .i64 0]⟩),
 (67, ⟨.struct [(0, 3), (1, 3), (2, 2)], 3, 24, [.i .i64 0, .i .i64 0, .i .i64 0]⟩),
 (69, ⟨.struct [(0, 25), (1, 25)], 2, 48, [.ns, .ns]⟩),
 (70, ⟨.struct [(0, 25), (1, 25)], 2, 48, [.ns, .ns]⟩),
 (85, ⟨.slice 28, 1, 24, [.ns]⟩),
 (86, ⟨.struct [(0, 22), (1, 85), (2, 85)], 3, 72, [.ns, .ns, .ns]⟩),
 (87, ⟨.struct [(0, 22), (1, 85), (2, 85)], 3, 72, [.ns, .ns, .ns]⟩),
 (94, ⟨.slice 2, 1, 24, [.ns]⟩),
 (105, ⟨.ptr 94, 1, 8, [.np]⟩),
 (109, ⟨.int .u64, 1, 8, [.i .u64 0]⟩)]
theorem tok : TOk Try.prog T := tokB_spec (by decide +kernel)
instance glob33 : Glob where
 ok _ := True
 mono := fun _ _ => trivial
end Go.Sym