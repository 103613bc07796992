import Derived.Test.YtopppccddnplkaaProg
import Derived.Test.YtopppccddnplkaaSimD
import Derived.KernelRfl
namespace Go.Proofs.Ytopppccddnplkaa
open Go.Sim
set_option maxRecDepth 100000
theorem originNamesIs : Try.prog.funcNamed "fringe/fringelaw44.OriginNames" = some 10 := by kernel_rfl
theorem originNamesRun : saysTrue ((execA Try.prog noHint noPrims 10000).call 10 [] emptyH) = true := by kernel_rfl
end Go.Proofs.Ytopppccddnplkaa
