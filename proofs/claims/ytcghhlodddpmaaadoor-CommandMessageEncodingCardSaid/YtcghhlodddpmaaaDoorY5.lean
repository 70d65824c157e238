import Derived.Test.YtcghhlodddpmaaaDoorY4
namespace Go.Sym
set_option linter.unusedVariables false
set_option linter.unusedSimpArgs false
open Go.Proofs
set_option maxRecDepth 100000
theorem st_rd0 (B:List Int):st (rd0 B)= .ok B:=by rw[st_ok rfl];rfl
end Go.Sym