import Derived.Test.YtlpnmdknlfmjaaaProg
import Derived.Test.YtlpnmdknlfmjaaaSimTop
import Derived.KernelRfl
namespace Go.Proofs.Ytlpnmdknlfmjaaa
open Go.Sim
set_option maxRecDepth 100000
theorem queueNamesIs : Try.prog.funcNamed "fringe/fringelaw42.QueueNames" = some 7 := by kernel_rfl
theorem queueNamesRun : saysTrue ((execA Try.prog noHint noPrims 10000).call 7 [] emptyH) = true := by kernel_rfl
end Go.Proofs.Ytlpnmdknlfmjaaa
