import Derived.Test.YtakbmbmpcenljaaXD
import Derived.Test.YtakbmbmpcenljaaRows
namespace Go.Sym
set_option linter.unusedVariables false
open Go.Proofs
set_option maxRecDepth 100000
def T:List (Nat × TI):=[
 (2,⟨.int .i64,1,8,[.i .i64 0]⟩),
 (3,⟨.int .i64,1,8,[.i .i64 0]⟩),
 (4,⟨.bool,1,1,[.bt false]⟩),
 (22,⟨.slice 32,1,24,[.ns]⟩),
 (24,⟨.ptr 63,1,8,[.np]⟩),
 (25,⟨.int .i64,1,8,[.i .i64 0]⟩),
 (28,⟨.ptr 37,1,8,[.np]⟩),
 (31,⟨.struct [(0,3),(1,2),(2,3),(3,2),(4,2)],5,40,[.i .i64 0,.i .i64 0,.i .i64 0,.i .i64 0,.i .i64 0]⟩),
 (32,⟨.struct [(0,3),(1,2),(2,3),(3,2),(4,2)],5,40,[.i .i64 0,.i .i64 0,.i .i64 0,.i .i64 0,.i .i64 0]⟩),
 (35,⟨.slice 51,1,24,[.ns]⟩),
 (36,⟨.struct [(0,3),(1,2),(2,35)],3,40,[.i .i64 0,.i .i64 0,.ns]⟩),
 (37,⟨.struct [(0,3),(1,2),(2,35)],3,40,[.i .i64 0,.i .i64 0,.ns]⟩),
 (39,⟨.slice 2,1,24,[.ns]⟩),
 (42,⟨.struct [(0,3),(1,2)],2,16,[.i .i64 0,.i .i64 0]⟩),
 (43,⟨.struct [(0,3),(1,2)],2,16,[.i .i64 0,.i .i64 0]⟩),
 (50,⟨.struct [(0,2),(1,3),(2,2)],3,24,[.i .i64 0,.i .i64 0,.i .i64 0]⟩),
 (51,⟨.struct [(0,2),(1,3),(2,2)],3,24,[.i .i64 0,.i .i64 0,.i .i64 0]⟩),
 (61,⟨.map 2 67,1,8,[.nm]⟩),
 (62,⟨.struct [(0,3),(1,2),(2,61)],3,24,[.i .i64 0,.i .i64 0,.nm]⟩),
 (63,⟨.struct [(0,3),(1,2),(2,61)],3,24,[.i .i64 0,.i .i64 0,.nm]⟩),
 (65,⟨.slice 69,1,24,[.ns]⟩),
 (66,⟨.struct [(0,3),(1,2)],2,16,[.i .i64 0,.i .i64 0]⟩),
 (67,⟨.struct [(0,3),(1,2)],2,16,[.i .i64 0,.i .i64 0]⟩),
 (68,⟨.struct [(0,2),(1,2),(2,2)],3,24,[.i .i64 0,.i .i64 0,.i .i64 0]⟩),
 (69,⟨.struct [(0,2),(1,2),(2,2)],3,24,[.i .i64 0,.i .i64 0,.i .i64 0]⟩),
 (79,⟨.int .u64,1,8,[.i .u64 0]⟩),
 (84,⟨.int .i64,1,8,[.i .i64 0]⟩),
 (91,⟨.int .u32,1,4,[.i .u32 0]⟩),
 (93,⟨.int .u64,1,8,[.i .u64 0]⟩),
 (94,⟨.slice 3,1,24,[.ns]⟩),
 (95,⟨.int .u64,1,8,[.i .u64 0]⟩),
 (99,⟨.ptr 3,1,8,[.np]⟩),
 (101,⟨.ptr 95,1,8,[.np]⟩)]
theorem tok:TOk Try.prog T:=tokB_spec (by decide+kernel)
instance glob17:Glob where
 ok _:=True
 mono:=fun _ _=>trivial
end Go.Sym