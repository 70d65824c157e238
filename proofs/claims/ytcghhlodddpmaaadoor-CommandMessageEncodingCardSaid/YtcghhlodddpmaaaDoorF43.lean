import Derived.Test.YtcghhlodddpmaaaDoorX5
import Derived.Test.YtcghhlodddpmaaaDoorT3
import Derived.Test.YtcghhlodddpmaaaDoorXD
namespace Go.Sym
set_option linter.unusedVariables false
set_option linter.unusedSimpArgs false
open Go.Proofs Go.ChangeShapes Go.WideShapes Go.RowKit
set_option maxRecDepth 100000
def decI1 (g:Nat->D):Int:=(g 0).toI
theorem struct_in {H:Type} {enc:TypeId × Value->H} {P:Program} {w:World} {T:List (Nat × TI)} (hT:TOk P T) {t:Nat} {ks:List Kd} {cs:Array Value} {d:DataW H} {p:List MemPlace} (hk:kdsL T 40 t=some ks) (h:DataW.Trod enc P w 0 (fun _=>true) true t (.agg cs) d p):
  ∃ g:Nat->D,∀ j (hj:j<ks.length),∃ u,cs[j]? =some u/\DenD (fun b=>w.heap[b]?) (ks[j]'hj) (g j) u/\WfD (ks[j]'hj) (g j):=by
 obtain⟨fl,h⟩:=h
 obtain⟨g,hg⟩:=(trod_lift hT 40).1 t ks hk fl _ _ h
 refine⟨g,fun j hj=>?_⟩
 obtain⟨u,h1,h2,h3⟩:=hg j hj
 exact⟨u,by simpa[Value.cells]using h1,h2,h3⟩
end Go.Sym