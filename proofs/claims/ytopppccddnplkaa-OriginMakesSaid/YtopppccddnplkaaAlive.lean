/-
  THE EXAMPLES OF THE CHAPTER (fringelaw44.alive): the kernel runs the abstract machine; so the table of calls serves.
-/
import Derived.Test.YtopppccddnplkaaSeat
namespace Go.Proofs.Ytopppccddnplkaa
open Go.Sim
set_option maxRecDepth 100000
theorem aliveRun : saysTrue ((execA Try.prog ⟨fun f d => match lk locTab f with | some l => l.contains d | none => false, fun _ _ => none⟩ noPrims 10000).call 30 [] emptyH) = true := by kernel_rfl
theorem mixed : Try.prog.follows .mixedOrders = true := by kernel_rfl
theorem names : Try.prog.funcs.toList.all (fun fn => !(fn.name == "runtime.NumGoroutine")) = true := by kernel_rfl
theorem named (g : FuncId) (fn : Func) (h : Try.prog.funcs[g]? = some fn) : (fn.name == "runtime.NumGoroutine") = false := by
  have := List.all_eq_true.1 names fn (List.mem_of_getElem? (by simpa using h))
  simpa using this
theorem prims_ok : CallOK Try.prog prims := withTrue_ok (execA_ok mixed noPrims_ok noPrims_keep named 10000).2.2.1 Try.func30 (by kernel_rfl) (named 30 _ Try.func30) aliveRun noPrims_ok
theorem prims_keep : CallKeep prims := withTrue_keep noPrims_keep
end Go.Proofs.Ytopppccddnplkaa
