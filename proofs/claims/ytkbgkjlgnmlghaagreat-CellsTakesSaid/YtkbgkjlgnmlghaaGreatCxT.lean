import Derived.Test.YtkbgkjlgnmlghaaGreatSeatA
import Derived.Test.YtkbgkjlgnmlghaaGreatSeatB
import Derived.Test.YtkbgkjlgnmlghaaGreatSeatC
import Derived.Test.YtkbgkjlgnmlghaaGreatSeatD
import Derived.Test.YtkbgkjlgnmlghaaGreatSeatE
import Derived.Test.YtkbgkjlgnmlghaaGreatSeatF
import Derived.KernelRfl
set_option linter.unusedSimpArgs false
set_option linter.unusedVariables false
namespace Go.Proofs.YtkbgkjlgnmlghaaGreat
open Go.Sim
set_option linter.unusedVariables false
set_option maxRecDepth 100000
theorem guardC : Tryz.prog.eqGuardType Tryz.prog.depth 33 = false:=by kernel_rfl
theorem eqC (a b c a' b' c' : Int) : ∃ r,eqA Tryz.prog 30 33 (.agg #[.int .i64 a,.int .i64 b,.int .i64 c]) (.agg #[.int .i64 a',.int .i64 b',.int .i64 c']) = some r ∧ (r = true ↔ a = a' ∧ b = b' ∧ c = c'):=by
 have h3 : Tryz.prog.underlying 2 = some (.int .i64):=by kernel_rfl
 have hst : Tryz.prog.stoodInHeld 33 = false:=by kernel_rfl
 have i3 : isAggB Tryz.prog 2 = some false:=by kernel_rfl
 have e3 : ∀ (n : Nat) (x y : Int),eqA Tryz.prog (n + 1) 2 (.int .i64 x) (.int .i64 y) = some (x == y):=by
  intro n x y
  unfold eqA
  rw [h3]
  simp
 have key : eqA Tryz.prog (28 + 1 + 1) 33 (.agg #[.int .i64 a,.int .i64 b,.int .i64 c]) (.agg #[.int .i64 a',.int .i64 b',.int .i64 c']) = some ((a == a') && ((b == b') && (c == c'))):=by
  unfold eqA
  rw [Tryz.underlying33]
  have e3' : ∀ (x y : Int),eqA Tryz.prog 29 2 (.int .i64 x) (.int .i64 y) = some (x == y):=e3 28
  simp only [hst,cond_false,List.foldr,partA,i3,List.getElem?_cons_zero,List.getElem?_cons_succ,e3',String.reduceEq,if_false]
  cases a == a' <;> cases b == b' <;> cases c == c' <;> rfl
 refine ⟨_,key,?_⟩
 simp only [Bool.and_eq_true,beq_iff_eq]
theorem TC : SliceT Tryz.prog 24 33 3:=⟨by kernel_rfl,by kernel_rfl,⟨24,by kernel_rfl,by omega⟩,⟨.agg #[.int .i64 0,.int .i64 0,.int .i64 0],by kernel_rfl,rfl⟩⟩
end Go.Proofs.YtkbgkjlgnmlghaaGreat
