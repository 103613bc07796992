import Derived.Test.YtnokkniofajnhaaFracPure
set_option linter.unusedSimpArgs false
set_option linter.unusedVariables false
namespace Go.Proofs.Ytnokkniofajnhaa
open Go.Sim
set_option maxRecDepth 100000
theorem aliveRun : saysTrue ((execA Try.prog noHint primsP 10000).call 25 [] emptyH) = true:=by kernel_rfl
def primsA : Prims:=withTrue 25 primsP
theorem primsA_ok : CallOK Try.prog primsA:=withTrue_ok (execA_ok mixed primsP_ok primsP_keep named 10000).2.2.1 Try.func25 (by kernel_rfl) (named 25 _ Try.func25) aliveRun primsP_ok
theorem primsA_keep : CallKeep primsA:=withTrue_keep primsP_keep
end Go.Proofs.Ytnokkniofajnhaa
