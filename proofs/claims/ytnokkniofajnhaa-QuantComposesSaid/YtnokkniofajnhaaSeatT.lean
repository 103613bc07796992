import Derived.Test.YtnokkniofajnhaaSeatA
import Derived.Test.YtnokkniofajnhaaSeatB
import Derived.Test.YtnokkniofajnhaaSeatC
import Derived.Test.YtnokkniofajnhaaSeatD
import Derived.Test.YtnokkniofajnhaaSeatE
import Derived.Test.YtnokkniofajnhaaSeatF
import Derived.Test.YtnokkniofajnhaaSeatG
import Derived.Test.YtnokkniofajnhaaSeatH
import Derived.KernelRfl
set_option linter.unusedSimpArgs false
set_option linter.unusedVariables false
namespace Go.Proofs.Ytnokkniofajnhaa
open Go.Sim
set_option maxRecDepth 100000
theorem guardK : Try.prog.eqGuardType Try.prog.depth 51 = false:=by kernel_rfl
theorem eqK (a b c d a' b' c' d' : Int) : ∃ r,eqA Try.prog 30 51 (.agg #[.int .i64 a,.int .i64 b,.int .i64 c,.int .i64 d]) (.agg #[.int .i64 a',.int .i64 b',.int .i64 c',.int .i64 d']) = some r ∧ (r = true ↔ (a = a' ∧ b = b') ∧ c = c' ∧ d = d'):=by
 have h3 : Try.prog.underlying 2 = some (.int .i64):=by kernel_rfl
 have hst : Try.prog.stoodInHeld 24 = false:=by kernel_rfl
 have hst2 : Try.prog.stoodInHeld 51 = false:=by kernel_rfl
 have i3 : isAggB Try.prog 2 = some false:=by kernel_rfl
 have i4 : isAggB Try.prog 24 = some true:=by kernel_rfl
 have s4 : sizeT Try.prog 24 = some 2:=by kernel_rfl
 have e3 : ∀ (n : Nat) (x y : Int),eqA Try.prog (n + 1) 2 (.int .i64 x) (.int .i64 y) = some (x == y):=by
  intro n x y
  unfold eqA
  rw [h3]
  simp
 have e4 : ∀ a b a' b' : Int,eqA Try.prog (28 + 1) 24 (.agg #[.int .i64 a,.int .i64 b]) (.agg #[.int .i64 a',.int .i64 b']) = some ((a == a') && (b == b')):=by
  intro a b a' b'
  unfold eqA
  rw [Try.underlying24]
  have e3' : ∀ (x y : Int),eqA Try.prog 28 2 (.int .i64 x) (.int .i64 y) = some (x == y):=e3 27
  simp only [hst,cond_false,List.foldr,partA,i3,List.getElem?_cons_zero,List.getElem?_cons_succ,e3',String.reduceEq,if_false]
  cases a == a' <;> cases b == b' <;> rfl
 have key : eqA Try.prog (28 + 1 + 1) 51 (.agg #[.int .i64 a,.int .i64 b,.int .i64 c,.int .i64 d]) (.agg #[.int .i64 a',.int .i64 b',.int .i64 c',.int .i64 d']) = some (((a == a') && (b == b')) && ((c == c') && (d == d'))):=by
  unfold eqA
  rw [Try.underlying51]
  have r4 : ∀ w x y z : Value,readN [w,x,y,z] 0 2 = some [w,x]:=fun _ _ _ _ => rfl
  have r5 : ∀ w x y z : Value,readN [w,x,y,z] 2 2 = some [y,z]:=fun _ _ _ _ => rfl
  simp only [hst2,cond_false,List.foldr,partA,i4,s4,r4,r5,String.reduceEq,if_false]
  rw [show (29 : Nat) = 28 + 1 from rfl,e4,e4]
  cases ((a == a') && (b == b')) <;> cases ((c == c') && (d == d')) <;> rfl
 refine ⟨_,key,?_⟩
 simp only [Bool.and_eq_true,beq_iff_eq]
theorem T22 : SliceT Try.prog 22 51 4:=⟨by kernel_rfl,by kernel_rfl,⟨32,by kernel_rfl,by omega⟩,⟨.agg #[.int .i64 0,.int .i64 0,.int .i64 0,.int .i64 0],by kernel_rfl,rfl⟩⟩
