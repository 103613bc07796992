import Derived.Test.YtnokkniofajnhaaSeatA
import Derived.Test.YtnokkniofajnhaaSeatB
import Derived.Test.YtnokkniofajnhaaSeatC
import Derived.Test.YtnokkniofajnhaaSeatD
import Derived.Test.YtnokkniofajnhaaSeatE
import Derived.Test.YtnokkniofajnhaaSeatF
import Derived.Test.YtnokkniofajnhaaSeatG
import Derived.Test.YtnokkniofajnhaaSeatH
import Derived.KernelRfl
set_option linter.unusedSimpArgs false
set_option linter.unusedVariables false
namespace Go.Proofs.Ytnokkniofajnhaa
open Go.Sim
set_option maxRecDepth 100000
theorem guardF : Try.prog.eqGuardType Try.prog.depth 24 = false:=by kernel_rfl
theorem eqF (a b a' b' : Int) : ∃ r,eqA Try.prog 30 24 (.agg #[.int .i64 a,.int .i64 b]) (.agg #[.int .i64 a',.int .i64 b']) = some r ∧ (r = true ↔ a = a' ∧ b = b'):=by
 have h3 : Try.prog.underlying 2 = some (.int .i64):=by kernel_rfl
 have hst : Try.prog.stoodInHeld 24 = false:=by kernel_rfl
 have i3 : isAggB Try.prog 2 = some false:=by kernel_rfl
 have e3 : ∀ (n : Nat) (x y : Int),eqA Try.prog (n + 1) 2 (.int .i64 x) (.int .i64 y) = some (x == y):=by
  intro n x y
  unfold eqA
  rw [h3]
  simp
 have key : eqA Try.prog (28 + 1 + 1) 24 (.agg #[.int .i64 a,.int .i64 b]) (.agg #[.int .i64 a',.int .i64 b']) = some ((a == a') && (b == b')):=by
  unfold eqA
  rw [Try.underlying24]
  have e3' : ∀ (x y : Int),eqA Try.prog 29 2 (.int .i64 x) (.int .i64 y) = some (x == y):=e3 28
  simp only [hst,cond_false,List.foldr,partA,i3,List.getElem?_cons_zero,List.getElem?_cons_succ,e3',String.reduceEq,if_false]
  cases a == a' <;> cases b == b' <;> rfl
 refine ⟨_,key,?_⟩
 simp only [Bool.and_eq_true,beq_iff_eq]
theorem guardB : Try.prog.eqGuardType Try.prog.depth 88 = false:=by kernel_rfl
theorem eqB (a b c d : Int) : ∃ r,eqA Try.prog 30 88 (.agg #[.int .u64 a,.int .u64 b,.int .u64 c,.int .u64 d]) (.agg #[.int .u64 0,.int .u64 0,.int .u64 0,.int .u64 0]) = some r ∧ (r = true ↔ a = 0 ∧ b = 0 ∧ c = 0 ∧ d = 0):=by
 have h3 : Try.prog.underlying 80 = some (.int .u64):=by kernel_rfl
 have h4 : Try.prog.underlying 86 = some (.array 4 80):=by kernel_rfl
 have hst : Try.prog.stoodInHeld 88 = false:=by kernel_rfl
 have i3 : isAggB Try.prog 80 = some false:=by kernel_rfl
 have i4 : isAggB Try.prog 86 = some true:=by kernel_rfl
 have s3 : sizeT Try.prog 80 = some 1:=by kernel_rfl
 have s4 : sizeT Try.prog 86 = some 4:=by kernel_rfl
 have e3 : ∀ (n : Nat) (x y : Int),eqA Try.prog (n + 1) 80 (.int .u64 x) (.int .u64 y) = some (x == y):=by
  intro n x y
  unfold eqA
  rw [h3]
  simp
 have e4 : eqA Try.prog (28 + 1) 86 (.agg #[.int .u64 a,.int .u64 b,.int .u64 c,.int .u64 d]) (.agg #[.int .u64 0,.int .u64 0,.int .u64 0,.int .u64 0]) = some ((a == 0) && ((b == 0) && ((c == 0) && (d == 0)))):=by
  unfold eqA
  rw [h4]
  have e3' : ∀ (x y : Int),eqA Try.prog 28 80 (.int .u64 x) (.int .u64 y) = some (x == y):=e3 27
  simp only [s3,List.range,List.range.loop,List.foldr,partA,i3,List.getElem?_cons_zero,List.getElem?_cons_succ,e3',Nat.mul_one]
  cases a == 0 <;> cases b == 0 <;> cases c == 0 <;> cases d == 0 <;> rfl
 have key : eqA Try.prog (28 + 1 + 1) 88 (.agg #[.int .u64 a,.int .u64 b,.int .u64 c,.int .u64 d]) (.agg #[.int .u64 0,.int .u64 0,.int .u64 0,.int .u64 0]) = some ((a == 0) && ((b == 0) && ((c == 0) && (d == 0)))):=by
  unfold eqA
  rw [Try.underlying88]
  have r4 : ∀ w x y z : Value,readN [w,x,y,z] 0 4 = some [w,x,y,z]:=fun _ _ _ _ => rfl
  simp only [hst,cond_false,List.foldr,partA,i4,s4,r4,String.reduceEq,if_false]
  rw [show (29 : Nat) = 28 + 1 from rfl,e4]
  cases ((a == 0) && ((b == 0) && ((c == 0) && (d == 0)))) <;> rfl
 refine ⟨_,key,?_⟩
 simp only [Bool.and_eq_true,beq_iff_eq]
