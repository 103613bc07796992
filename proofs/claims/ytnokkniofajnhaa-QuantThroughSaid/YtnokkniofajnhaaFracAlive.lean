import Derived.Test.YtnokkniofajnhaaFracPure
set_option linter.unusedSimpArgs false
set_option linter.unusedVariables false
namespace Go.Proofs.Ytnokkniofajnhaa
open Go.Sim
set_option maxRecDepth 100000
theorem aliveRun : saysTrue ((execA Try.prog noHint primsP 10000).call 25 [] emptyH) = true:=by kernel_rfl
theorem prims_ok : CallOK Try.prog prims:=withTrue_ok (execA_ok mixed primsP_ok primsP_keep named 10000).2.2.1 Try.func25 (by kernel_rfl) (named 25 _ Try.func25) aliveRun prims0_ok
theorem prims_alike (g : FuncId) (args : List Value) (h : AHeap) (hg : Nat.beq g 25 = false) : prims g args h = prims0 g args h:=by
 unfold prims withTrue
 rw [hg]
 rfl
theorem alive_prim (h : AHeap) : prims 25 [] h = some (.bool true,h):=rfl
end Go.Proofs.Ytnokkniofajnhaa
