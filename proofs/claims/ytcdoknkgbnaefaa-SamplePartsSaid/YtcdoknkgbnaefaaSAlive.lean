import Derived.Test.YtcdoknkgbnaefaaFracPrims
set_option linter.unusedSimpArgs false
set_option linter.unusedVariables false
namespace Go.Proofs.Ytcdoknkgbnaefaa
open Go.Sim
set_option maxRecDepth 100000
theorem aliveRun : saysTrue ((execA Try.prog noHint prims0 10000).call 29 [] emptyH) = true:=by kernel_rfl
theorem prims_ok : CallOK Try.prog prims:=withTrue_ok (execA_ok mixed prims0_ok prims0_keep named 10000).2.2.1 Try.func29 (by kernel_rfl) (named 29 _ Try.func29) aliveRun prims0_ok
theorem prims_alike (g : FuncId) (args : List Value) (h : AHeap) (hg : Nat.beq g 29 = false) : prims g args h = prims0 g args h:=by
 unfold prims withTrue
 rw [hg]
 rfl
theorem alive_prim (h : AHeap) : prims 29 [] h = some (.bool true,h):=rfl
end Go.Proofs.Ytcdoknkgbnaefaa
