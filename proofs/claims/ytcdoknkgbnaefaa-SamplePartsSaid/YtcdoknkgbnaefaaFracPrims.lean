import Derived.Test.YtcdoknkgbnaefaaSeatA
import Derived.Test.YtcdoknkgbnaefaaSeatB
import Derived.Test.YtcdoknkgbnaefaaSeatC
import Derived.Test.YtcdoknkgbnaefaaSeatD
import Derived.Test.YtcdoknkgbnaefaaSeatE
import Derived.KernelRfl
set_option linter.unusedSimpArgs false
set_option linter.unusedVariables false
namespace Go.Proofs.Ytcdoknkgbnaefaa
open Go.Sim
set_option maxRecDepth 100000
theorem mixed : Try.prog.follows .mixedOrders = true:=by kernel_rfl
theorem names : Try.prog.funcs.toList.all (fun fn => !(fn.name == "runtime.NumGoroutine")) = true := by kernel_rfl
theorem named (g : FuncId) (fn : Func) (h : Try.prog.funcs[g]? = some fn) : (fn.name == "runtime.NumGoroutine") = false := by
 have:=List.all_eq_true.1 names fn (List.mem_of_getElem? (by simpa using h))
 simpa using this
theorem prims0_ok : CallOK Try.prog prims0:=noPrims_ok
theorem prims0_keep : CallKeep prims0:=noPrims_keep
theorem prims_keep : CallKeep prims:=withTrue_keep prims0_keep
end Go.Proofs.Ytcdoknkgbnaefaa
