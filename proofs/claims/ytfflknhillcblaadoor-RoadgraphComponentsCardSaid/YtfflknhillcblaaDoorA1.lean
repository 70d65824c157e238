import Derived.Test.YtfflknhillcblaaDoorXD
import Derived.Test.YtfflknhillcblaaDoorRows
import Derived.Lib.TrailingZeros
namespace Go.Sym
set_option linter.unusedVariables false
open Go.Proofs
set_option maxRecDepth 100000
def T:List (Nat × TI):=[
 (2,⟨.int .i64,1,8,[.i .i64 0]⟩),
 (3,⟨.int .i64,1,8,[.i .i64 0]⟩),
 (4,⟨.bool,1,1,[.bt false]⟩),
 (5,⟨.int .u8,1,1,[.i .u8 0]⟩),
 (6,⟨.int .u8,1,1,[.i .u8 0]⟩),
 (7,⟨.struct [(0,2),(1,3),(2,4),(3,6)],4,24,[.i .i64 0,.i .i64 0,.bt false,.i .u8 0]⟩),
 (8,⟨.struct [(0,2),(1,3),(2,4),(3,6)],4,24,[.i .i64 0,.i .i64 0,.bt false,.i .u8 0]⟩),
 (9,⟨.str,1,16,[.s ByteArray.empty]⟩),
 (10,⟨.str,1,16,[.s ByteArray.empty]⟩),
 (11,⟨.str,1,16,[.s ByteArray.empty]⟩),
 (12,⟨.int .u64,1,8,[.i .u64 0]⟩),
 (13,⟨.struct [(0,9),(1,12)],2,24,[.s ByteArray.empty,.i .u64 0]⟩),
 (14,⟨.struct [(0,9),(1,12)],2,24,[.s ByteArray.empty,.i .u64 0]⟩),
 (15,⟨.ptr 116,1,8,[.np]⟩),
 (16,⟨.ptr 119,1,8,[.np]⟩),
 (17,⟨.ptr 127,1,8,[.np]⟩),
 (18,⟨.struct [(0,17)],1,8,[.np]⟩),
 (19,⟨.struct [(0,17)],1,8,[.np]⟩),
 (21,⟨.int .i32,1,4,[.i .i32 0]⟩),
 (22,⟨.slice 53,1,24,[.ns]⟩),
 (23,⟨.struct [(0,3),(1,22)],2,32,[.i .i64 0,.ns]⟩),
 (24,⟨.struct [(0,3),(1,22)],2,32,[.i .i64 0,.ns]⟩),
 (26,⟨.ptr 71,1,8,[.np]⟩),
 (30,⟨.slice 3,1,24,[.ns]⟩),
 (34,⟨.func,1,8,[.nf]⟩),
 (38,⟨.ptr 76,1,8,[.np]⟩),
 (39,⟨.struct [(0,38)],1,8,[.np]⟩),
 (40,⟨.struct [(0,38)],1,8,[.np]⟩),
 (47,⟨.slice 40,1,24,[.ns]⟩),
 (49,⟨.slice 30,1,24,[.ns]⟩),
 (52,⟨.struct [(0,3),(1,3),(2,2)],3,24,[.i .i64 0,.i .i64 0,.i .i64 0]⟩),
 (53,⟨.struct [(0,3),(1,3),(2,2)],3,24,[.i .i64 0,.i .i64 0,.i .i64 0]⟩),
 (54,⟨.slice 2,1,24,[.ns]⟩),
 (63,⟨.int .i64,1,8,[.i .i64 0]⟩),
 (70,⟨.struct [(0,22),(1,49),(2,49)],3,72,[.ns,.ns,.ns]⟩),
 (71,⟨.struct [(0,22),(1,49),(2,49)],3,72,[.ns,.ns,.ns]⟩),
 (72,⟨.slice 4,1,24,[.ns]⟩),
 (74,⟨.int .u64,1,8,[.i .u64 0]⟩),
 (75,⟨.arr 64 74,64,512,[.i .u64 0,.i .u64 0,.i .u64 0,.i .u64 0,.i .u64 0,.i .u64 0,.i .u64 0,.i .u64 0,.i .u64 0,.i .u64 0,.i .u64 0,.i .u64 0,.i .u64 0,.i .u64 0,.i .u64 0,.i .u64 0,.i .u64 0,.i .u64 0,.i .u64 0,.i .u64 0,.i .u64 0,.i .u64 0,.i .u64 0,.i .u64 0,.i .u64 0,.i .u64 0,.i .u64 0,.i .u64 0,.i .u64 0,.i .u64 0,.i .u64 0,.i .u64 0,.i .u64 0,.i .u64 0,.i .u64 0,.i .u64 0,.i .u64 0,.i .u64 0,.i .u64 0,.i .u64 0,.i .u64 0,.i .u64 0,.i .u64 0,.i .u64 0,.i .u64 0,.i .u64 0,.i .u64 0,.i .u64 0,.i .u64 0,.i .u64 0,.i .u64 0,.i .u64 0,.i .u64 0,.i .u64 0,.i .u64 0,.i .u64 0,.i .u64 0,.i .u64 0,.i .u64 0,.i .u64 0,.i .u64 0,.i .u64 0,.i .u64 0,.i .u64 0]⟩),
 (76,⟨.arr 64 74,64,512,[.i .u64 0,.i .u64 0,.i .u64 0,.i .u64 0,.i .u64 0,.i .u64 0,.i .u64 0,.i .u64 0,.i .u64 0,.i .u64 0,.i .u64 0,.i .u64 0,.i .u64 0,.i .u64 0,.i .u64 0,.i .u64 0,.i .u64 0,.i .u64 0,.i .u64 0,.i .u64 0,.i .u64 0,.i .u64 0,.i .u64 0,.i .u64 0,.i .u64 0,.i .u64 0,.i .u64 0,.i .u64 0,.i .u64 0,.i .u64 0,.i .u64 0,.i .u64 0,.i .u64 0,.i .u64 0,.i .u64 0,.i .u64 0,.i .u64 0,.i .u64 0,.i .u64 0,.i .u64 0,.i .u64 0,.i .u64 0,.i .u64 0,.i .u64 0,.i .u64 0,.i .u64 0,.i .u64 0,.i .u64 0,.i .u64 0,.i .u64 0,.i .u64 0,.i .u64 0,.i .u64 0,.i .u64 0,.i .u64 0,.i .u64 0,.i .u64 0,.i .u64 0,.i .u64 0,.i .u64 0,.i .u64 0,.i .u64 0,.i .u64 0,.i .u64 0]⟩),
 (94,⟨.int .u64,1,8,[.i .u64 0]⟩),
 (95,⟨.arr 64 5,64,64,[.i .u8 0,.i .u8 0,.i .u8 0,.i .u8 0,.i .u8 0,.i .u8 0,.i .u8 0,.i .u8 0,.i .u8 0,.i .u8 0,.i .u8 0,.i .u8 0,.i .u8 0,.i .u8 0,.i .u8 0,.i .u8 0,.i .u8 0,.i .u8 0,.i .u8 0,.i .u8 0,.i .u8 0,.i .u8 0,.i .u8 0,.i .u8 0,.i .u8 0,.i .u8 0,.i .u8 0,.i .u8 0,.i .u8 0,.i .u8 0,.i .u8 0,.i .u8 0,.i .u8 0,.i .u8 0,.i .u8 0,.i .u8 0,.i .u8 0,.i .u8 0,.i .u8 0,.i .u8 0,.i .u8 0,.i .u8 0,.i .u8 0,.i .u8 0,.i .u8 0,.i .u8 0,.i .u8 0,.i .u8 0,.i .u8 0,.i .u8 0,.i .u8 0,.i .u8 0,.i .u8 0,.i .u8 0,.i .u8 0,.i .u8 0,.i .u8 0,.i .u8 0,.i .u8 0,.i .u8 0,.i .u8 0,.i .u8 0,.i .u8 0,.i .u8 0]⟩),
 (97,⟨.int .i64,1,8,[.i .i64 0]⟩),
 (104,⟨.int .u32,1,4,[.i .u32 0]⟩),
 (105,⟨.int .u64,1,8,[.i .u64 0]⟩),
 (109,⟨.ptr 3,1,8,[.np]⟩),
 (111,⟨.ptr 105,1,8,[.np]⟩),
 (115,⟨.struct [(0,17),(1,17),(2,17),(3,9)],4,40,[.np,.np,.np,.s ByteArray.empty]⟩),
 (116,⟨.struct [(0,17),(1,17),(2,17),(3,9)],4,40,[.np,.np,.np,.s ByteArray.empty]⟩),
 (117,⟨.arr 0 16,0,0,[]⟩),
 (118,⟨.struct [(0,117)],0,0,[]⟩),
 (119,⟨.struct [(0,117)],0,0,[]⟩),
 (120,⟨.int .u8,1,1,[.i .u8 0]⟩),
 (121,⟨.int .u8,1,1,[.i .u8 0]⟩),
 (123,⟨.ptr 5,1,8,[.np]⟩),
 (124,⟨.int .i32,1,4,[.i .i32 0]⟩),
 (125,⟨.int .i32,1,4,[.i .i32 0]⟩),
 (126,⟨.struct [(0,12),(1,12),(2,104),(3,120),(4,5),(5,5),(6,121),(7,122),(8,123),(9,124),(10,125)],11,48,[.i .u64 0,.i .u64 0,.i .u32 0,.i .u8 0,.i .u8 0,.i .u8 0,.i .u8 0,.nf,.np,.i .i32 0,.i .i32 0]⟩),
 (127,⟨.struct [(0,12),(1,12),(2,104),(3,120),(4,5),(5,5),(6,121),(7,122),(8,123),(9,124),(10,125)],11,48,[.i .u64 0,.i .u64 0,.i .u32 0,.i .u8 0,.i .u8 0,.i .u8 0,.i .u8 0,.nf,.np,.i .i32 0,.i .i32 0]⟩)]
theorem tok:TOk Tryd.prog T:=tokB_spec (by decide+kernel)
def tabV:Array Value:=(Go.Lib.deBruijn64tab.map fun n:Nat=>Value.int .u8 (n:Int)).toArray
instance glob07:Glob where
 ok ρ:=∃ T fz,ρ.z 0=some (.cells tabV T fz)
 mono:=fun h ⟨T,fz,e⟩=>⟨T,fz,h _ _ e⟩
end Go.Sym