import Derived.Test.YtogliemiljhliaaFracPure
set_option linter.unusedSimpArgs false
set_option linter.unusedVariables false
namespace Go.Proofs.Ytogliemiljhliaa
open Go.Sim
set_option maxRecDepth 100000
theorem aliveRun : saysTrue ((execA Try.prog noHint primsP 10000).call 23 [] emptyH) = true:=by kernel_rfl
theorem prims_ok : CallOK Try.prog prims:=withTrue_ok (execA_ok mixed primsP_ok primsP_keep named 10000).2.2.1 Try.func23 (by kernel_rfl) (named 23 _ Try.func23) aliveRun prims0_ok
theorem prims_alike (g : FuncId) (args : List Value) (h : AHeap) (hg : Nat.beq g 23 = false) : prims g args h = prims0 g args h:=by
 unfold prims withTrue
 rw [hg]
 rfl
def primsA : Prims:=withTrue 23 primsP
theorem primsA_ok : CallOK Try.prog primsA:=withTrue_ok (execA_ok mixed primsP_ok primsP_keep named 10000).2.2.1 Try.func23 (by kernel_rfl) (named 23 _ Try.func23) aliveRun primsP_ok
theorem primsA_keep : CallKeep primsA:=withTrue_keep primsP_keep
theorem alive_prim (h : AHeap) : prims 23 [] h = some (.bool true,h):=rfl
end Go.Proofs.Ytogliemiljhliaa
