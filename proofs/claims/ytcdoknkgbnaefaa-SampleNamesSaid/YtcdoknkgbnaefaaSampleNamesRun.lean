import Derived.Test.YtcdoknkgbnaefaaProg
import Derived.Test.YtcdoknkgbnaefaaSimTop
import Derived.KernelRfl
namespace Go.Proofs.Ytcdoknkgbnaefaa
open Go.Sim
set_option maxRecDepth 100000
theorem sampleNamesIs : Try.prog.funcNamed "fringe/fringelaw13.SampleNames" = some 9 := by kernel_rfl
theorem sampleNamesRun : saysTrue ((execA Try.prog noHint noPrims 10000).call 9 [] emptyH) = true := by kernel_rfl
end Go.Proofs.Ytcdoknkgbnaefaa
