import Derived.Test.YtlldhkhmhgcpaaaDoorV1
import Derived.Test.YtlldhkhmhgcpaaaDoorT40
import Derived.Test.YtlldhkhmhgcpaaaDoorVS
import Derived.Test.YtlldhkhmhgcpaaaDoorCM
namespace Go.Sym
set_option linter.unusedVariables false
set_option linter.unusedSimpArgs false
open Go.ChangeShapes Go.WideShapes Go.RowKit
open Go.Proofs
set_option maxRecDepth 100000
def decU10 (g:Nat->D):Un:=⟨(g 0).toI,(g 1).toI,(g 2).toI,(g 3).toI,(g 4).toI,(g 5).toI,(g 6).toI,(g 7).toI,(g 8).toI,(g 9).toI⟩
def decM2 (g:Nat->D):Mv:=((g 0).toI,(g 1).toI)
theorem decU10_eq (g:Nat->D):rowEq kU g (encU (decU10 g)) 0:=by simp only[rowEq,Kd.eqv,kU];exact⟨rfl,rfl,rfl,rfl,rfl,rfl,rfl,rfl,rfl,rfl,trivial⟩
theorem decM2_eq (g:Nat->D):rowEq kM g (encM (decM2 g)) 0:=by simp only[rowEq,Kd.eqv,kM];exact⟨rfl,rfl,trivial⟩
end Go.Sym