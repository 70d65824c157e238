import Derived.Test.YtcghhlodddpmaaaDoorX5
import Derived.Test.YtcghhlodddpmaaaDoorT3
import Derived.Test.YtcghhlodddpmaaaDoorXD
namespace Go.Sym
set_option linter.unusedVariables false
set_option linter.unusedSimpArgs false
open Go.Proofs Go.ChangeShapes Go.WideShapes Go.RowKit
set_option maxRecDepth 100000
def decI1 (g:Nat->D):Int:=(g 0).toI
theorem decI1_eq (g:Nat->D):rowEq kN g (encI (decI1 g)) 0:=by simp only[rowEq,Kd.eqv];exact⟨rfl,trivial⟩
end Go.Sym