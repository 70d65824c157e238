import Derived.Test.YtakbmbmpcenljaaV1
import Derived.Test.YtakbmbmpcenljaaT17
namespace Go.Sym
set_option linter.unusedVariables false
set_option linter.unusedSimpArgs false
open Go.ChangeShapes Go.WideShapes Go.RowKit
open Go.Proofs
set_option maxRecDepth 100000
def decAct (g:Nat->D):Act:=⟨(g 0).toI,(g 1).toI,(g 2).toI,(g 3).toI,(g 4).toI⟩
theorem decAct_eq (g:Nat->D):rowEq kA5 g (encA (decAct g)) 0:=⟨rfl,rfl,rfl,rfl,rfl,trivial⟩
end Go.Sym