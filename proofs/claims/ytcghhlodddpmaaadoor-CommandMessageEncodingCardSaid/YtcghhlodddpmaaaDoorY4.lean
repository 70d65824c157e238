import Derived.Test.YtcghhlodddpmaaaDoorY3
import Derived.Test.YtcghhlodddpmaaaDoorX4
namespace Go.Sym
set_option linter.unusedVariables false
set_option linter.unusedSimpArgs false
open Go.Proofs
set_option maxRecDepth 100000
end Go.Sym