import Derived.Test.YtogliemiljhliaaSeatA
import Derived.Test.YtogliemiljhliaaSeatB
import Derived.Test.YtogliemiljhliaaSeatC
import Derived.Test.YtogliemiljhliaaSeatD
import Derived.Test.YtogliemiljhliaaSeatE
import Derived.Test.YtogliemiljhliaaSeatF
import Derived.Test.YtogliemiljhliaaSeatG
import Derived.KernelRfl
set_option linter.unusedSimpArgs false
set_option linter.unusedVariables false
namespace Go.Proofs.Ytogliemiljhliaa
open Go.Sim
set_option maxRecDepth 100000
theorem mixed : Try.prog.follows .mixedOrders = true:=by kernel_rfl
theorem names : Try.prog.funcs.toList.all (fun fn => !(fn.name == "runtime.NumGoroutine")) = true := by kernel_rfl
theorem named (g : FuncId) (fn : Func) (h : Try.prog.funcs[g]? = some fn) : (fn.name == "runtime.NumGoroutine") = false := by
 have:=List.all_eq_true.1 names fn (List.mem_of_getElem? (by simpa using h))
 simpa using this
theorem pAa : Try.f88.body.isNone = true:=by kernel_rfl
theorem pAb : Extern.findNext Try.f88 = none:=by kernel_rfl
theorem pAc : Extern.find Try.f88 = some add64Entry:=by kernel_rfl
theorem pSa : Try.f90.body.isNone = true:=by kernel_rfl
theorem pSb : Extern.findNext Try.f90 = none:=by kernel_rfl
theorem pSc : Extern.find Try.f90 = some sub64E:=by kernel_rfl
theorem prims0_ok : CallOK Try.prog prims0:=withFn_ok (add64_ok Try.func88 (named _ _ Try.func88) pAa pAb pAc) (withFn_ok (sub64_ok Try.func90 (named _ _ Try.func90) pSa pSb pSc) noPrims_ok)
theorem prims0_keep : CallKeep prims0:=withFn_keep (withFn_keep noPrims_keep)
theorem prims_keep : CallKeep prims:=withTrue_keep prims0_keep
end Go.Proofs.Ytogliemiljhliaa
