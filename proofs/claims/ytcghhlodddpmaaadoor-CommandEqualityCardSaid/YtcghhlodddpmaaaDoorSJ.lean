import Derived.Shelf.Strings.OnBuilder
import Derived.Test.YtcghhlodddpmaaaDoorProg
namespace Go.Proofs
open Go.Shelf
def Tryd.lays156_ren:Go.Shelf.Ren:=⟨fun|156=>47|165=>70|166=>71|169=>72|240=>87|241=>88|276=>95|277=>96|n=>n,fun|31=>70|9=>9|3=>3|4=>4|0=>0|20=>20|72=>106|76=>109|70=>104|37=>29|75=>108|127=>123|164=>131|5=>5|80=>75|n=>n,fun|n=>n⟩
theorem Tryd.lays156:Go.Proofs.Lays.n156 Tryd.prog Tryd.lays156_ren:={
 mixed:=by kernel_rfl
 f156:=Tryd.func47.trans (congrArg some (by kernel_rfl))
 f165:=Tryd.func70.trans (congrArg some (by kernel_rfl))
 f166:=Tryd.func71.trans (congrArg some (by kernel_rfl))
 f169:=Tryd.func72.trans (congrArg some (by kernel_rfl))
 f240:=Tryd.func87.trans (congrArg some (by kernel_rfl))
 f241:=Tryd.func88.trans (congrArg some (by kernel_rfl))
 f276:=Tryd.func95.trans (congrArg some (by kernel_rfl))
 f277:=Tryd.func96.trans (congrArg some (by kernel_rfl))
 t0:=Tryd.underlying0
 a0:=Tryd.isAgg0
 z0:=Tryd.sizeOf0
 v0:=Tryd.zeroValue0
 t3:=Tryd.underlying3
 a3:=Tryd.isAgg3
 z3:=Tryd.sizeOf3
 v3:=Tryd.zeroValue3
 t4:=Tryd.underlying4
 a4:=Tryd.isAgg4
 z4:=Tryd.sizeOf4
 v4:=Tryd.zeroValue4
 t9:=Tryd.underlying9
 a9:=Tryd.isAgg9
 z9:=Tryd.sizeOf9
 v9:=Tryd.zeroValue9
 t20:=Tryd.underlying20
 a20:=Tryd.isAgg20
 z20:=Tryd.sizeOf20
 v20:=Tryd.zeroValue20
 t31:=Tryd.underlying70
 a31:=Tryd.isAgg70
 z31:=Tryd.sizeOf70
 v31:=Tryd.zeroValue70
 t37:=Tryd.underlying29
 a37:=Tryd.isAgg29
 z37:=Tryd.sizeOf29
 v37:=Tryd.zeroValue29
 t70:=Tryd.underlying104
 a70:=Tryd.isAgg104
 z70:=Tryd.sizeOf104
 v70:=Tryd.zeroValue104
 t72:=Tryd.underlying106
 a72:=Tryd.isAgg106
 z72:=Tryd.sizeOf106
 v72:=Tryd.zeroValue106
 t75:=Tryd.underlying108
 a75:=Tryd.isAgg108
 z75:=Tryd.sizeOf108
 v75:=Tryd.zeroValue108
 t76:=Tryd.underlying109
 a76:=Tryd.isAgg109
 z76:=Tryd.sizeOf109
 v76:=Tryd.zeroValue109
 t127:=Tryd.underlying123
 a127:=Tryd.isAgg123
 z127:=Tryd.sizeOf123
 v127:=Tryd.zeroValue123
 t164:=Tryd.underlying131
 a164:=Tryd.isAgg131
 z164:=Tryd.sizeOf131
 v164:=Tryd.zeroValue131 }
theorem Tryd.Builder_Extra_156:Builder.Extra Tryd.prog Tryd.lays156_ren:={
 sizeBuilder:=by kernel_rfl
 liesBuilder:=by kernel_rfl
 t5:=Tryd.underlying5
 a5:=Tryd.isAgg5
 z5:=Tryd.sizeOf5
 v5:=Tryd.zeroValue5
 infoByte:=by kernel_rfl
 cellsByte:=by kernel_rfl
 sizeByte:=by kernel_rfl
 neB5:=by decide }
open Go.RowKit in
theorem Tryd.strings_Join_none (a:Option Addr) (c:Nat) (sep:ByteArray) (w:World):
  Calls Tryd.prog 47 #[.slice a 0 c,.string sep] w fun e w'=>e= .returned (.string ⟨#[]⟩)/\w'=w:=Any.strings_Join_none Tryd.lays156 Tryd.Builder_Extra_156 a c sep w
open Go.RowKit in
theorem Tryd.strings_Join (bk o c:Nat) (xs:List ByteArray) (sep:ByteArray) (w:World) (hcells:∀(j:Nat) x,xs[j]? =some x->w.cell? ⟨bk,o+j,none⟩=some (.string x)) (hbk:bk<w.heap.size) (hN:xs.length<=140737488355328) (hcap:xs.length<=c) (hlen:(Lib.join (xs.map (·.data.toList)) sep.data.toList).length<=140737488355328):
  Calls Tryd.prog 47 #[.slice (some ⟨bk,o,none⟩) xs.length c,.string sep] w fun e w'=>e= .returned (.string ⟨(Lib.join (xs.map (·.data.toList)) sep.data.toList).toArray⟩)/\Below w.heap.size w w':=Any.strings_Join Tryd.lays156 Tryd.Builder_Extra_156 bk o c xs sep w hcells hbk hN hcap hlen
end Go.Proofs