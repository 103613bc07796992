/-
  LISTS OF NUMBERS THAT CAME IN, in the abstract heap of a world.
-/
import Derived.Test.YtcdoknkgbnaefaaSeat
import Derived.Test.YtcdoknkgbnaefaaSymShape
namespace Go.Proofs.Ytcdoknkgbnaefaa
open Go.Sim
set_option linter.unusedVariables false
set_option maxRecDepth 100000

def wf64 (n : Int) : Prop := -9223372036854775808 ≤ n ∧ n < 9223372036854775808
theorem wf64_of {n : Int} (h : (Lit.int .i64 n).wf = true) : wf64 n := by
  unfold wf64
  simp [Lit.wf, IntKind.min, IntKind.max, IntKind.signed, IntKind.bits] at h; omega
theorem cells3 : Try.prog.cellsOf 3 = 1 := by kernel_rfl

theorem ints_in {w : World} {h : AHeap} (hn : h.next = w.heap.size) (hm : ∀ b, b < w.heap.size → h.m.get b = absB w b) {H : Type} {enc : TypeId × Value → H} {base fuel b0 : Nat} {sp : Nat → Bool} {held : Bool} {r : Reach} {v : Value} {x : DataW H × List MemPlace}
    (hval : Value.okWide Try.prog w r b0 22 v) (hf : DataW.trod enc Try.prog w base sp held fuel 22 v.cells.toList = some x) :
    ∃ a n c l, v = .slice a n c ∧ repC w v = true ∧ n ≤ c ∧ c ≤ maxLen ∧ Ints h .i64 a n l ∧ ∀ x ∈ l, (Lit.int .i64 x).wf = true :=
  ints_arg hn hm Try.underlying22 Try.underlying3 cells3 hval hf

end Go.Proofs.Ytcdoknkgbnaefaa
