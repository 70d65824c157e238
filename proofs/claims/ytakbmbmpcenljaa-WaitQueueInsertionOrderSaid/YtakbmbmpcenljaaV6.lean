import Derived.Test.YtakbmbmpcenljaaV1
import Derived.Test.YtakbmbmpcenljaaT17
namespace Go.Sym
set_option linter.unusedVariables false
set_option linter.unusedSimpArgs false
open Go.ChangeShapes Go.WideShapes Go.RowKit
open Go.Proofs
set_option maxRecDepth 100000
def decAct (g:Nat->D):Act:=⟨(g 0).toI,(g 1).toI,(g 2).toI,(g 3).toI,(g 4).toI⟩
theorem decAct_eq (g:Nat->D):rowEq kA5 g (encA (decAct g)) 0:=⟨rfl,rfl,rfl,rfl,rfl,trivial⟩
theorem list_2 {α:Type} {l:List α} (h:l.length=2):∃ a b,l=[a,b]:=by
 match l,h with
 | [a,b],_=>exact⟨a,b,rfl⟩
theorem struct_cellsW {H:Type} {enc:TypeId × Value->H} {P:Program} {W:World} {T:List (Nat × TI)} (hT:TOk P T) {t:Nat} {ks:List Kd} {cs:Array Value} {d:DataW H} {p:List MemPlace} (hk:kdsL T 40 t=some ks) (hs:cs.size=ks.length)
  (h:DataW.Trod enc P W 0 (fun _=>true) true t (.agg cs) d p):∃ g:Nat->D,CellsD W ks g 0 cs.toList/\∀ j k,ks[j]? =some k->WfD k (g j):=by
 obtain⟨fl,h⟩:=h
 obtain⟨g,hg⟩:=(trod_lift hT 40).1 t ks hk fl _ _ h
 refine⟨g,⟨by simpa using hs,fun j k hj=>?_⟩,fun j k hj=>?_⟩
 all_goals
  have hlt:j<ks.length:=by
   rcases Nat.lt_or_ge j ks.length with q|q
   ·exact q
   ·rw[List.getElem?_eq_none q]at hj;cases hj
  obtain⟨u,h1,h2,h3⟩:=hg j hlt
  rw[List.getElem?_eq_getElem hlt]at hj
  cases hj
 ·exact⟨u,by simpa[Value.cells]using h1,by simpa using h2⟩
 ·simpa using h3
end Go.Sym