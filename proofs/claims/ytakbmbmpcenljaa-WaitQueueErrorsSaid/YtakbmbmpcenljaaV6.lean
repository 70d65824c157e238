import Derived.Test.YtakbmbmpcenljaaV1
import Derived.Test.YtakbmbmpcenljaaT17
namespace Go.Sym
set_option linter.unusedVariables false
set_option linter.unusedSimpArgs false
open Go.ChangeShapes Go.WideShapes Go.RowKit
open Go.Proofs
set_option maxRecDepth 100000
def decAct (g:Nat->D):Act:=⟨(g 0).toI,(g 1).toI,(g 2).toI,(g 3).toI,(g 4).toI⟩
theorem decAct_eq (g:Nat->D):rowEq kA5 g (encA (decAct g)) 0:=⟨rfl,rfl,rfl,rfl,rfl,trivial⟩
theorem list_2 {α:Type} {l:List α} (h:l.length=2):∃ a b,l=[a,b]:=by
 match l,h with
 | [a,b],_=>exact⟨a,b,rfl⟩
theorem list_5 {α:Type} {l:List α} (h:l.length=5):∃ a b c d e,l=[a,b,c,d,e]:=by
 match l,h with
 | [a,b,c,d,e],_=>exact⟨a,b,c,d,e,rfl⟩
end Go.Sym