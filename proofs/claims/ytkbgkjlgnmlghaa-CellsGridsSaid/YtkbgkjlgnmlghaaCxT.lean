import Derived.Test.YtkbgkjlgnmlghaaSeatA
import Derived.Test.YtkbgkjlgnmlghaaSeatB
import Derived.Test.YtkbgkjlgnmlghaaSeatC
import Derived.Test.YtkbgkjlgnmlghaaSeatD
import Derived.Test.YtkbgkjlgnmlghaaSeatE
import Derived.Test.YtkbgkjlgnmlghaaSeatF
import Derived.Test.YtkbgkjlgnmlghaaSeatG
import Derived.Test.YtkbgkjlgnmlghaaSeatH
import Derived.Test.YtkbgkjlgnmlghaaSeatI
import Derived.KernelRfl
set_option linter.unusedSimpArgs false
set_option linter.unusedVariables false
namespace Go.Proofs.Ytkbgkjlgnmlghaa
open Go.Sim
set_option linter.unusedVariables false
set_option maxRecDepth 100000
theorem guardC : Try.prog.eqGuardType Try.prog.depth 46 = false:=by kernel_rfl
theorem eqC (a b c a' b' c' : Int) : ∃ r,eqA Try.prog 30 46 (.agg #[.int .i64 a,.int .i64 b,.int .i64 c]) (.agg #[.int .i64 a',.int .i64 b',.int .i64 c']) = some r ∧ (r = true ↔ a = a' ∧ b = b' ∧ c = c'):=by
 have h3 : Try.prog.underlying 2 = some (.int .i64):=by kernel_rfl
 have hst : Try.prog.stoodInHeld 46 = false:=by kernel_rfl
 have i3 : isAggB Try.prog 2 = some false:=by kernel_rfl
 have e3 : ∀ (n : Nat) (x y : Int),eqA Try.prog (n + 1) 2 (.int .i64 x) (.int .i64 y) = some (x == y):=by
  intro n x y
  unfold eqA
  rw [h3]
  simp
 have key : eqA Try.prog (28 + 1 + 1) 46 (.agg #[.int .i64 a,.int .i64 b,.int .i64 c]) (.agg #[.int .i64 a',.int .i64 b',.int .i64 c']) = some ((a == a') && ((b == b') && (c == c'))):=by
  unfold eqA
  rw [Try.underlying46]
  have e3' : ∀ (x y : Int),eqA Try.prog 29 2 (.int .i64 x) (.int .i64 y) = some (x == y):=e3 28
  simp only [hst,cond_false,List.foldr,partA,i3,List.getElem?_cons_zero,List.getElem?_cons_succ,e3',String.reduceEq,if_false]
  cases a == a' <;> cases b == b' <;> cases c == c' <;> rfl
 refine ⟨_,key,?_⟩
 simp only [Bool.and_eq_true,beq_iff_eq]
theorem TC : SliceT Try.prog 27 46 3:=⟨by kernel_rfl,by kernel_rfl,⟨24,by kernel_rfl,by omega⟩,⟨.agg #[.int .i64 0,.int .i64 0,.int .i64 0],by kernel_rfl,rfl⟩⟩
end Go.Proofs.Ytkbgkjlgnmlghaa
