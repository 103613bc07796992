import Derived.Test.YtcdoknkgbnaefaaSeatA
import Derived.Test.YtcdoknkgbnaefaaSeatB
import Derived.Test.YtcdoknkgbnaefaaSeatC
import Derived.Test.YtcdoknkgbnaefaaSeatD
import Derived.Test.YtcdoknkgbnaefaaSeatE
import Derived.KernelRfl
set_option linter.unusedSimpArgs false
set_option linter.unusedVariables false
namespace Go.Proofs.Ytcdoknkgbnaefaa
open Go.Sim
set_option linter.unusedVariables false
set_option maxRecDepth 100000
theorem guardF : Try.prog.eqGuardType Try.prog.depth 51 = false:=by kernel_rfl
theorem eqF (a b a' b' : Int) : ∃ r,eqA Try.prog 30 51 (.agg #[.int .i64 a,.int .i64 b]) (.agg #[.int .i64 a',.int .i64 b']) = some r ∧ (r = true ↔ a = a' ∧ b = b'):=by
 have h3 : Try.prog.underlying 2 = some (.int .i64):=by kernel_rfl
 have hst : Try.prog.stoodInHeld 51 = false:=by kernel_rfl
 have i3 : isAggB Try.prog 2 = some false:=by kernel_rfl
 have e3 : ∀ (n : Nat) (x y : Int),eqA Try.prog (n + 1) 2 (.int .i64 x) (.int .i64 y) = some (x == y):=by
  intro n x y
  unfold eqA
  rw [h3]
  simp
 have key : eqA Try.prog (28 + 1 + 1) 51 (.agg #[.int .i64 a,.int .i64 b]) (.agg #[.int .i64 a',.int .i64 b']) = some ((a == a') && (b == b')):=by
  unfold eqA
  rw [Try.underlying51]
  have e3' : ∀ (x y : Int),eqA Try.prog 29 2 (.int .i64 x) (.int .i64 y) = some (x == y):=e3 28
  simp only [hst,cond_false,List.foldr,partA,i3,List.getElem?_cons_zero,List.getElem?_cons_succ,e3',String.reduceEq,if_false]
  cases a == a' <;> cases b == b' <;> rfl
 refine ⟨_,key,?_⟩
 simp only [Bool.and_eq_true,beq_iff_eq]
end Go.Proofs.Ytcdoknkgbnaefaa
