import Derived.Test.YtcghhlodddpmaaaDoorXD
import Derived.Test.YtcghhlodddpmaaaDoorRows
import Derived.Lib.TrailingZeros
import Derived.Lib.ItoaNum
namespace Go.Sym
open Go.Proofs
set_option maxRecDepth 100000
def T:List (Nat × TI):=[
 (2,⟨.int .i64,1,8,[.i .i64 0]⟩),
 (3,⟨.int .i64,1,8,[.i .i64 0]⟩),
 (4,⟨.bool,1,1,[.bt false]⟩),
 (5,⟨.int .u8,1,1,[.i .u8 0]⟩),
 (6,⟨.int .u8,1,1,[.i .u8 0]⟩),
 (7,⟨.struct [(0,2),(1,3),(2,4),(3,6)],4,24,[.i .i64 0,.i .i64 0,.bt false,.i .u8 0]⟩),
 (8,⟨.struct [(0,2),(1,3),(2,4),(3,6)],4,24,[.i .i64 0,.i .i64 0,.bt false,.i .u8 0]⟩),
 (9,⟨.str,1,16,[.s ByteArray.empty]⟩),
 (10,⟨.str,1,16,[.s ByteArray.empty]⟩),
 (11,⟨.str,1,16,[.s ByteArray.empty]⟩),
 (12,⟨.int .u64,1,8,[.i .u64 0]⟩),
 (13,⟨.struct [(0,9),(1,12)],2,24,[.s ByteArray.empty,.i .u64 0]⟩),
 (14,⟨.struct [(0,9),(1,12)],2,24,[.s ByteArray.empty,.i .u64 0]⟩),
 (15,⟨.ptr 137,1,8,[.np]⟩),
 (16,⟨.ptr 140,1,8,[.np]⟩),
 (17,⟨.ptr 147,1,8,[.np]⟩),
 (18,⟨.struct [(0,17)],1,8,[.np]⟩),
 (19,⟨.struct [(0,17)],1,8,[.np]⟩),
 (21,⟨.int .i32,1,4,[.i .i32 0]⟩),
 (22,⟨.slice 3,1,24,[.ns]⟩),
 (23,⟨.struct [(0,3),(1,2),(2,3),(3,3),(4,2)],5,40,[.i .i64 0,.i .i64 0,.i .i64 0,.i .i64 0,.i .i64 0]⟩),
 (24,⟨.struct [(0,3),(1,2),(2,3),(3,3),(4,2)],5,40,[.i .i64 0,.i .i64 0,.i .i64 0,.i .i64 0,.i .i64 0]⟩),
 (25,⟨.struct [(0,3),(1,2),(2,2),(3,2),(4,3),(5,9),(6,22),(7,3),(8,3),(9,2),(10,2),(11,24),(16,3),(17,2),(18,3)],19,176,[.i .i64 0,.i .i64 0,.i .i64 0,.i .i64 0,.i .i64 0,.s ByteArray.empty,.ns,.i .i64 0,.i .i64 0,.i .i64 0,.i .i64 0,.i .i64 0,.i .i64 0,.i .i64 0,.i .i64 0,.i .i64 0,.i .i64 0,.i .i64 0,.i .i64 0]⟩),
 (26,⟨.struct [(0,3),(1,2),(2,2),(3,2),(4,3),(5,9),(6,22),(7,3),(8,3),(9,2),(10,2),(11,24),(16,3),(17,2),(18,3)],19,176,[.i .i64 0,.i .i64 0,.i .i64 0,.i .i64 0,.i .i64 0,.s ByteArray.empty,.ns,.i .i64 0,.i .i64 0,.i .i64 0,.i .i64 0,.i .i64 0,.i .i64 0,.i .i64 0,.i .i64 0,.i .i64 0,.i .i64 0,.i .i64 0,.i .i64 0]⟩),
 (29,⟨.slice 5,1,24,[.ns]⟩),
 (32,⟨.int .i64,1,8,[.i .i64 0]⟩),
 (36,⟨.int .u16,1,2,[.i .u16 0]⟩),
 (38,⟨.struct [(0,3),(1,2),(2,3),(3,3),(4,2),(5,2),(6,29)],7,72,[.i .i64 0,.i .i64 0,.i .i64 0,.i .i64 0,.i .i64 0,.i .i64 0,.ns]⟩),
 (39,⟨.struct [(0,3),(1,2),(2,3),(3,3),(4,2),(5,2),(6,29)],7,72,[.i .i64 0,.i .i64 0,.i .i64 0,.i .i64 0,.i .i64 0,.i .i64 0,.ns]⟩),
 (43,⟨.struct [(0,3),(1,2),(2,3),(3,3),(4,2),(5,2),(6,29)],7,72,[.i .i64 0,.i .i64 0,.i .i64 0,.i .i64 0,.i .i64 0,.i .i64 0,.ns]⟩),
 (57,⟨.ptr 26,1,8,[.np]⟩),
 (60,⟨.struct [(0,29)],1,24,[.ns]⟩),
 (61,⟨.struct [(0,29)],1,24,[.ns]⟩),
 (70,⟨.slice 9,1,24,[.ns]⟩),
 (71,⟨.ptr 97,1,8,[.np]⟩),
 (72,⟨.struct [(0,71)],1,8,[.np]⟩),
 (73,⟨.struct [(0,71)],1,8,[.np]⟩),
 (80,⟨.ptr 113,1,8,[.np]⟩),
 (90,⟨.ptr 61,1,8,[.np]⟩),
 (91,⟨.int .u64,1,8,[.i .u64 0]⟩),
 (92,⟨.int .u64,1,8,[.i .u64 0]⟩),
 (93,⟨.slice 2,1,24,[.ns]⟩),
 (95,⟨.arr 16 9,16,256,[.s ByteArray.empty,.s ByteArray.empty,.s ByteArray.empty,.s ByteArray.empty,.s ByteArray.empty,.s ByteArray.empty,.s ByteArray.empty,.s ByteArray.empty,.s ByteArray.empty,.s ByteArray.empty,.s ByteArray.empty,.s ByteArray.empty,.s ByteArray.empty,.s ByteArray.empty,.s ByteArray.empty,.s ByteArray.empty]⟩),
 (96,⟨.arr 64 91,64,512,[.i .u64 0,.i .u64 0,.i .u64 0,.i .u64 0,.i .u64 0,.i .u64 0,.i .u64 0,.i .u64 0,.i .u64 0,.i .u64 0,.i .u64 0,.i .u64 0,.i .u64 0,.i .u64 0,.i .u64 0,.i .u64 0,.i .u64 0,.i .u64 0,.i .u64 0,.i .u64 0,.i .u64 0,.i .u64 0,.i .u64 0,.i .u64 0,.i .u64 0,.i .u64 0,.i .u64 0,.i .u64 0,.i .u64 0,.i .u64 0,.i .u64 0,.i .u64 0,.i .u64 0,.i .u64 0,.i .u64 0,.i .u64 0,.i .u64 0,.i .u64 0,.i .u64 0,.i .u64 0,.i .u64 0,.i .u64 0,.i .u64 0,.i .u64 0,.i .u64 0,.i .u64 0,.i .u64 0,.i .u64 0,.i .u64 0,.i .u64 0,.i .u64 0,.i .u64 0,.i .u64 0,.i .u64 0,.i .u64 0,.i .u64 0,.i .u64 0,.i .u64 0,.i .u64 0,.i .u64 0,.i .u64 0,.i .u64 0,.i .u64 0,.i .u64 0]⟩),
 (97,⟨.arr 64 91,64,512,[.i .u64 0,.i .u64 0,.i .u64 0,.i .u64 0,.i .u64 0,.i .u64 0,.i .u64 0,.i .u64 0,.i .u64 0,.i .u64 0,.i .u64 0,.i .u64 0,.i .u64 0,.i .u64 0,.i .u64 0,.i .u64 0,.i .u64 0,.i .u64 0,.i .u64 0,.i .u64 0,.i .u64 0,.i .u64 0,.i .u64 0,.i .u64 0,.i .u64 0,.i .u64 0,.i .u64 0,.i .u64 0,.i .u64 0,.i .u64 0,.i .u64 0,.i .u64 0,.i .u64 0,.i .u64 0,.i .u64 0,.i .u64 0,.i .u64 0,.i .u64 0,.i .u64 0,.i .u64 0,.i .u64 0,.i .u64 0,.i .u64 0,.i .u64 0,.i .u64 0,.i .u64 0,.i .u64 0,.i .u64 0,.i .u64 0,.i .u64 0,.i .u64 0,.i .u64 0,.i .u64 0,.i .u64 0,.i .u64 0,.i .u64 0,.i .u64 0,.i .u64 0,.i .u64 0,.i .u64 0,.i .u64 0,.i .u64 0,.i .u64 0,.i .u64 0]⟩),
 (104,⟨.ptr 106,1,8,[.np]⟩),
 (105,⟨.struct [(0,104),(1,29)],2,32,[.np,.ns]⟩),
 (106,⟨.struct [(0,104),(1,29)],2,32,[.np,.ns]⟩),
 (112,⟨.struct [(0,29),(1,32)],2,32,[.ns,.i .i64 0]⟩),
 (113,⟨.struct [(0,29),(1,32)],2,32,[.ns,.i .i64 0]⟩),
 (119,⟨.arr 24 5,24,24,[.i .u8 0,.i .u8 0,.i .u8 0,.i .u8 0,.i .u8 0,.i .u8 0,.i .u8 0,.i .u8 0,.i .u8 0,.i .u8 0,.i .u8 0,.i .u8 0,.i .u8 0,.i .u8 0,.i .u8 0,.i .u8 0,.i .u8 0,.i .u8 0,.i .u8 0,.i .u8 0,.i .u8 0,.i .u8 0,.i .u8 0,.i .u8 0]⟩),
 (123,⟨.ptr 5,1,8,[.np]⟩),
 (124,⟨.arr 64 5,64,64,[.i .u8 0,.i .u8 0,.i .u8 0,.i .u8 0,.i .u8 0,.i .u8 0,.i .u8 0,.i .u8 0,.i .u8 0,.i .u8 0,.i .u8 0,.i .u8 0,.i .u8 0,.i .u8 0,.i .u8 0,.i .u8 0,.i .u8 0,.i .u8 0,.i .u8 0,.i .u8 0,.i .u8 0,.i .u8 0,.i .u8 0,.i .u8 0,.i .u8 0,.i .u8 0,.i .u8 0,.i .u8 0,.i .u8 0,.i .u8 0,.i .u8 0,.i .u8 0,.i .u8 0,.i .u8 0,.i .u8 0,.i .u8 0,.i .u8 0,.i .u8 0,.i .u8 0,.i .u8 0,.i .u8 0,.i .u8 0,.i .u8 0,.i .u8 0,.i .u8 0,.i .u8 0,.i .u8 0,.i .u8 0,.i .u8 0,.i .u8 0,.i .u8 0,.i .u8 0,.i .u8 0,.i .u8 0,.i .u8 0,.i .u8 0,.i .u8 0,.i .u8 0,.i .u8 0,.i .u8 0,.i .u8 0,.i .u8 0,.i .u8 0,.i .u8 0]⟩),
 (127,⟨.arr 20 91,20,160,[.i .u64 0,.i .u64 0,.i .u64 0,.i .u64 0,.i .u64 0,.i .u64 0,.i .u64 0,.i .u64 0,.i .u64 0,.i .u64 0,.i .u64 0,.i .u64 0,.i .u64 0,.i .u64 0,.i .u64 0,.i .u64 0,.i .u64 0,.i .u64 0,.i .u64 0,.i .u64 0]⟩),
 (128,⟨.int .u32,1,4,[.i .u32 0]⟩),
 (135,⟨.arr 32 5,32,32,[.i .u8 0,.i .u8 0,.i .u8 0,.i .u8 0,.i .u8 0,.i .u8 0,.i .u8 0,.i .u8 0,.i .u8 0,.i .u8 0,.i .u8 0,.i .u8 0,.i .u8 0,.i .u8 0,.i .u8 0,.i .u8 0,.i .u8 0,.i .u8 0,.i .u8 0,.i .u8 0,.i .u8 0,.i .u8 0,.i .u8 0,.i .u8 0,.i .u8 0,.i .u8 0,.i .u8 0,.i .u8 0,.i .u8 0,.i .u8 0,.i .u8 0,.i .u8 0]⟩),
 (136,⟨.struct [(0,17),(1,17),(2,17),(3,9)],4,40,[.np,.np,.np,.s ByteArray.empty]⟩),
 (137,⟨.struct [(0,17),(1,17),(2,17),(3,9)],4,40,[.np,.np,.np,.s ByteArray.empty]⟩),
 (138,⟨.arr 0 16,0,0,[]⟩),
 (139,⟨.struct [(0,138)],0,0,[]⟩),
 (140,⟨.struct [(0,138)],0,0,[]⟩),
 (141,⟨.int .u8,1,1,[.i .u8 0]⟩),
 (142,⟨.int .u8,1,1,[.i .u8 0]⟩),
 (144,⟨.int .i32,1,4,[.i .i32 0]⟩),
 (145,⟨.int .i32,1,4,[.i .i32 0]⟩),
 (146,⟨.struct [(0,12),(1,12),(2,128),(3,141),(4,5),(5,5),(6,142),(7,143),(8,123),(9,144),(10,145)],11,48,[.i .u64 0,.i .u64 0,.i .u32 0,.i .u8 0,.i .u8 0,.i .u8 0,.i .u8 0,.nf,.np,.i .i32 0,.i .i32 0]⟩),
 (147,⟨.struct [(0,12),(1,12),(2,128),(3,141),(4,5),(5,5),(6,142),(7,143),(8,123),(9,144),(10,145)],11,48,[.i .u64 0,.i .u64 0,.i .u32 0,.i .u8 0,.i .u8 0,.i .u8 0,.i .u8 0,.nf,.np,.i .i32 0,.i .i32 0]⟩)]
theorem tok:TOk Tryd.prog T:=tokB_spec (by decide+kernel)
def tabV:Array Value:=(Go.Lib.deBruijn64tab.map fun n:Nat=>Value.int .u8 (n:Int)).toArray
def powV:Array Value:=(Go.Lib.pow10Tab.map fun z=>Value.int .u64 z).toArray
instance glob10:Glob where
 ok ρ:=(∃ T fz,ρ.z 0=some (.cells tabV T fz))/\∃ T fz,ρ.z 1=some (.cells powV T fz)
 mono:=fun h ⟨⟨T,fz,e⟩,T',fz',e'⟩=>⟨⟨T,fz,h _ _ e⟩,T',fz',h _ _ e'⟩
abbrev kB:List Kd:=[.int .u8]
abbrev kN:List Kd:=[.int .i64]
def cfg0:Cfg:=⟨T,[],[],noInv,60,{ kn:=true }⟩
theorem con0:ConOk Tryd.prog cfg0:=ConL.ok .nil
end Go.Sym