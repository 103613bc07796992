import Derived.Test.YtkbgkjlgnmlghaaSeatA
import Derived.Test.YtkbgkjlgnmlghaaSeatB
import Derived.Test.YtkbgkjlgnmlghaaSeatC
import Derived.Test.YtkbgkjlgnmlghaaSeatD
import Derived.Test.YtkbgkjlgnmlghaaSeatE
import Derived.Test.YtkbgkjlgnmlghaaSeatF
import Derived.Test.YtkbgkjlgnmlghaaSeatG
import Derived.Test.YtkbgkjlgnmlghaaSeatH
import Derived.Test.YtkbgkjlgnmlghaaSeatI
import Derived.KernelRfl
set_option linter.unusedSimpArgs false
set_option linter.unusedVariables false
namespace Go.Proofs.Ytkbgkjlgnmlghaa
open Go.Sim
set_option maxRecDepth 100000
theorem mixed : Try.prog.follows .mixedOrders = true:=by kernel_rfl
theorem names : Try.prog.funcs.toList.all (fun fn => !(fn.name == "runtime.NumGoroutine")) = true := by kernel_rfl
theorem named (g : FuncId) (fn : Func) (h : Try.prog.funcs[g]? = some fn) : (fn.name == "runtime.NumGoroutine") = false := by
 have:=List.all_eq_true.1 names fn (List.mem_of_getElem? (by simpa using h))
 simpa using this
theorem pAa : Try.f76.body.isNone = true:=by kernel_rfl
theorem pAb : Extern.findNext Try.f76 = none:=by kernel_rfl
theorem pAc : Extern.find Try.f76 = some add64Entry:=by kernel_rfl
theorem pSa : Try.f78.body.isNone = true:=by kernel_rfl
theorem pSb : Extern.findNext Try.f78 = none:=by kernel_rfl
theorem pSc : Extern.find Try.f78 = some sub64E:=by kernel_rfl
theorem prims0_ok : CallOK Try.prog prims0:=withFn_ok (add64_ok Try.func76 (named _ _ Try.func76) pAa pAb pAc) (withFn_ok (sub64_ok Try.func78 (named _ _ Try.func78) pSa pSb pSc) noPrims_ok)
theorem prims0_keep : CallKeep prims0:=withFn_keep (withFn_keep noPrims_keep)
theorem prims_keep : CallKeep prims:=withTrue_keep prims0_keep
end Go.Proofs.Ytkbgkjlgnmlghaa
