import Derived.Test.YtkbgkjlgnmlghaaGreatSeatA
import Derived.Test.YtkbgkjlgnmlghaaGreatSeatB
import Derived.Test.YtkbgkjlgnmlghaaGreatSeatC
import Derived.Test.YtkbgkjlgnmlghaaGreatSeatD
import Derived.Test.YtkbgkjlgnmlghaaGreatSeatE
import Derived.Test.YtkbgkjlgnmlghaaGreatSeatF
import Derived.KernelRfl
set_option linter.unusedSimpArgs false
set_option linter.unusedVariables false
namespace Go.Proofs.YtkbgkjlgnmlghaaGreat
open Go.Sim
set_option maxRecDepth 100000
theorem mixed : Tryz.prog.follows .mixedOrders = true:=by kernel_rfl
theorem names : Tryz.prog.funcs.toList.all (fun fn => !(fn.name == "runtime.NumGoroutine")) = true := by kernel_rfl
theorem named (g : FuncId) (fn : Func) (h : Tryz.prog.funcs[g]? = some fn) : (fn.name == "runtime.NumGoroutine") = false := by
 have:=List.all_eq_true.1 names fn (List.mem_of_getElem? (by simpa using h))
 simpa using this
theorem pAa : Tryz.f93.body.isNone = true:=by kernel_rfl
theorem pAb : Extern.findNext Tryz.f93 = none:=by kernel_rfl
theorem pAc : Extern.find Tryz.f93 = some add64Entry:=by kernel_rfl
theorem pSa : Tryz.f95.body.isNone = true:=by kernel_rfl
theorem pSb : Extern.findNext Tryz.f95 = none:=by kernel_rfl
theorem pSc : Extern.find Tryz.f95 = some sub64E:=by kernel_rfl
theorem prims0_ok : CallOK Tryz.prog prims0:=withFn_ok (Go.Sim.add64_ok Tryz.func93 (named _ _ Tryz.func93) pAa pAb pAc) (withFn_ok (Go.Sim.sub64_ok Tryz.func95 (named _ _ Tryz.func95) pSa pSb pSc) noPrims_ok)
theorem prims0_keep : CallKeep prims0:=withFn_keep (withFn_keep noPrims_keep)
end Go.Proofs.YtkbgkjlgnmlghaaGreat
