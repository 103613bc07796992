import Derived.Test.YtogliemiljhliaaProg
import Derived.Test.YtogliemiljhliaaFracAlive
import Derived.KernelRfl
set_option linter.unusedSimpArgs false
set_option linter.unusedVariables false
namespace Go.Proofs.Ytogliemiljhliaa
open Go.Sim
set_option maxRecDepth 100000
theorem redunNamesRun : saysTrue ((execA Try.prog noHint primsA 20000).call 8 [] emptyH) = true:=by kernel_rfl
end Go.Proofs.Ytogliemiljhliaa
