import Derived.Test.YtogliemiljhliaaSeatA
import Derived.Test.YtogliemiljhliaaSeatB
import Derived.Test.YtogliemiljhliaaSeatC
import Derived.Test.YtogliemiljhliaaSeatD
import Derived.Test.YtogliemiljhliaaSeatE
import Derived.Test.YtogliemiljhliaaSeatF
import Derived.Test.YtogliemiljhliaaSeatG
import Derived.KernelRfl
set_option linter.unusedSimpArgs false
set_option linter.unusedVariables false
namespace Go.Proofs.Ytogliemiljhliaa
open Go.Sim
set_option linter.unusedVariables false
set_option maxRecDepth 100000
theorem guardF : Try.prog.eqGuardType Try.prog.depth 52 = false:=by kernel_rfl
theorem eqF (a b a' b' : Int) : ∃ r,eqA Try.prog 30 52 (.agg #[.int .i64 a,.int .i64 b]) (.agg #[.int .i64 a',.int .i64 b']) = some r ∧ (r = true ↔ a = a' ∧ b = b'):=by
 have h3 : Try.prog.underlying 2 = some (.int .i64):=by kernel_rfl
 have hst : Try.prog.stoodInHeld 52 = false:=by kernel_rfl
 have i3 : isAggB Try.prog 2 = some false:=by kernel_rfl
 have e3 : ∀ (n : Nat) (x y : Int),eqA Try.prog (n + 1) 2 (.int .i64 x) (.int .i64 y) = some (x == y):=by
  intro n x y
  unfold eqA
  rw [h3]
  simp
 have key : eqA Try.prog (28 + 1 + 1) 52 (.agg #[.int .i64 a,.int .i64 b]) (.agg #[.int .i64 a',.int .i64 b']) = some ((a == a') && (b == b')):=by
  unfold eqA
  rw [Try.underlying52]
  have e3' : ∀ (x y : Int),eqA Try.prog 29 2 (.int .i64 x) (.int .i64 y) = some (x == y):=e3 28
  simp only [hst,cond_false,List.foldr,partA,i3,List.getElem?_cons_zero,List.getElem?_cons_succ,e3',String.reduceEq,if_false]
  cases a == a' <;> cases b == b' <;> rfl
 refine ⟨_,key,?_⟩
 simp only [Bool.and_eq_true,beq_iff_eq]
theorem guardB : Try.prog.eqGuardType Try.prog.depth 106 = false:=by kernel_rfl
theorem eqB (a b c d : Int) : ∃ r,eqA Try.prog 30 106 (.agg #[.int .u64 a,.int .u64 b,.int .u64 c,.int .u64 d]) (.agg #[.int .u64 0,.int .u64 0,.int .u64 0,.int .u64 0]) = some r ∧ (r = true ↔ a = 0 ∧ b = 0 ∧ c = 0 ∧ d = 0):=by
 have h3 : Try.prog.underlying 100 = some (.int .u64):=by kernel_rfl
 have h4 : Try.prog.underlying 104 = some (.array 4 100):=by kernel_rfl
 have hst : Try.prog.stoodInHeld 106 = false:=by kernel_rfl
 have i3 : isAggB Try.prog 100 = some false:=by kernel_rfl
 have i4 : isAggB Try.prog 104 = some true:=by kernel_rfl
 have s3 : sizeT Try.prog 100 = some 1:=by kernel_rfl
 have s4 : sizeT Try.prog 104 = some 4:=by kernel_rfl
 have e3 : ∀ (n : Nat) (x y : Int),eqA Try.prog (n + 1) 100 (.int .u64 x) (.int .u64 y) = some (x == y):=by
  intro n x y
  unfold eqA
  rw [h3]
  simp
 have e4 : eqA Try.prog (28 + 1) 104 (.agg #[.int .u64 a,.int .u64 b,.int .u64 c,.int .u64 d]) (.agg #[.int .u64 0,.int .u64 0,.int .u64 0,.int .u64 0]) = some ((a == 0) && ((b == 0) && ((c == 0) && (d == 0)))):=by
  unfold eqA
  rw [h4]
  have e3' : ∀ (x y : Int),eqA Try.prog 28 100 (.int .u64 x) (.int .u64 y) = some (x == y):=e3 27
  simp only [s3,List.range,List.range.loop,List.foldr,partA,i3,List.getElem?_cons_zero,List.getElem?_cons_succ,e3',Nat.mul_one]
  cases a == 0 <;> cases b == 0 <;> cases c == 0 <;> cases d == 0 <;> rfl
 have key : eqA Try.prog (28 + 1 + 1) 106 (.agg #[.int .u64 a,.int .u64 b,.int .u64 c,.int .u64 d]) (.agg #[.int .u64 0,.int .u64 0,.int .u64 0,.int .u64 0]) = some ((a == 0) && ((b == 0) && ((c == 0) && (d == 0)))):=by
  unfold eqA
  rw [Try.underlying106]
  have r4 : ∀ w x y z : Value,readN [w,x,y,z] 0 4 = some [w,x,y,z]:=fun _ _ _ _ => rfl
  simp only [hst,cond_false,List.foldr,partA,i4,s4,r4,String.reduceEq,if_false]
  rw [show (29 : Nat) = 28 + 1 from rfl,e4]
  cases ((a == 0) && ((b == 0) && ((c == 0) && (d == 0)))) <;> rfl
 refine ⟨_,key,?_⟩
 simp only [Bool.and_eq_true,beq_iff_eq]
end Go.Proofs.Ytogliemiljhliaa
namespace Go.Proofs.Ytogliemiljhliaa
open Go.Sim
set_option maxRecDepth 100000
theorem mixed : Try.prog.follows .mixedOrders = true:=by kernel_rfl
theorem names : Try.prog.funcs.toList.all (fun fn => !(fn.name == "runtime.NumGoroutine")) = true := by kernel_rfl
theorem named (g : FuncId) (fn : Func) (h : Try.prog.funcs[g]? = some fn) : (fn.name == "runtime.NumGoroutine") = false := by
 have:=List.all_eq_true.1 names fn (List.mem_of_getElem? (by simpa using h))
 simpa using this
theorem pAa : Try.f88.body.isNone = true:=by kernel_rfl
theorem pAb : Extern.findNext Try.f88 = none:=by kernel_rfl
theorem pAc : Extern.find Try.f88 = some add64Entry:=by kernel_rfl
theorem pSa : Try.f90.body.isNone = true:=by kernel_rfl
theorem pSb : Extern.findNext Try.f90 = none:=by kernel_rfl
theorem pSc : Extern.find Try.f90 = some sub64E:=by kernel_rfl
theorem prims0_ok : CallOK Try.prog prims0:=withFn_ok (Go.Sim.add64_ok Try.func88 (named _ _ Try.func88) pAa pAb pAc) (withFn_ok (Go.Sim.sub64_ok Try.func90 (named _ _ Try.func90) pSa pSb pSc) noPrims_ok)
theorem prims0_keep : CallKeep prims0:=withFn_keep (withFn_keep noPrims_keep)
theorem prims_keep : CallKeep prims:=withTrue_keep prims0_keep
end Go.Proofs.Ytogliemiljhliaa
