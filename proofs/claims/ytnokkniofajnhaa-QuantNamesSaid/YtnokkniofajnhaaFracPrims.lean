import Derived.Test.YtnokkniofajnhaaSeatA
import Derived.Test.YtnokkniofajnhaaSeatB
import Derived.Test.YtnokkniofajnhaaSeatC
import Derived.Test.YtnokkniofajnhaaSeatD
import Derived.Test.YtnokkniofajnhaaSeatE
import Derived.Test.YtnokkniofajnhaaSeatF
import Derived.Test.YtnokkniofajnhaaSeatG
import Derived.Test.YtnokkniofajnhaaSeatH
import Derived.KernelRfl
set_option linter.unusedSimpArgs false
set_option linter.unusedVariables false
namespace Go.Proofs.Ytnokkniofajnhaa
open Go.Sim
set_option maxRecDepth 100000
theorem mixed : Try.prog.follows .mixedOrders = true:=by kernel_rfl
theorem names : Try.prog.funcs.toList.all (fun fn => !(fn.name == "runtime.NumGoroutine")) = true := by kernel_rfl
theorem named (g : FuncId) (fn : Func) (h : Try.prog.funcs[g]? = some fn) : (fn.name == "runtime.NumGoroutine") = false := by
 have:=List.all_eq_true.1 names fn (List.mem_of_getElem? (by simpa using h))
 simpa using this
theorem pAa : Try.f80.body.isNone = true:=by kernel_rfl
theorem pAb : Extern.findNext Try.f80 = none:=by kernel_rfl
theorem pAc : Extern.find Try.f80 = some add64Entry:=by kernel_rfl
theorem pSa : Try.f82.body.isNone = true:=by kernel_rfl
theorem pSb : Extern.findNext Try.f82 = none:=by kernel_rfl
theorem pSc : Extern.find Try.f82 = some sub64E:=by kernel_rfl
theorem prims0_ok : CallOK Try.prog prims0:=withFn_ok (Go.Sim.add64_ok Try.func80 (named _ _ Try.func80) pAa pAb pAc) (withFn_ok (Go.Sim.sub64_ok Try.func82 (named _ _ Try.func82) pSa pSb pSc) noPrims_ok)
theorem prims0_keep : CallKeep prims0:=withFn_keep (withFn_keep noPrims_keep)
end Go.Proofs.Ytnokkniofajnhaa
