import Derived.Test.YtcdoknkgbnaefaaSeatA
import Derived.Test.YtcdoknkgbnaefaaSeatB
import Derived.Test.YtcdoknkgbnaefaaSeatC
import Derived.Test.YtcdoknkgbnaefaaSeatD
import Derived.Test.YtcdoknkgbnaefaaSeatE
import Derived.Test.YtcdoknkgbnaefaaSymD
set_option linter.unusedSimpArgs false
set_option linter.unusedVariables false
namespace Go.Proofs.Ytcdoknkgbnaefaa
open Go.Sim
set_option linter.unusedVariables false
set_option maxRecDepth 100000
theorem cells3 : Try.prog.cellsOf 3 = 1:=by kernel_rfl
theorem ints_in {w : World} {h : AHeap} (hn : h.next = w.heap.size) (hm : ∀ b,b < w.heap.size → h.m.get b = absB w b) {H : Type} {enc : TypeId × Value → H} {base fuel b0 : Nat} {held : Bool} {r : Reach} {v : Value} {x : DataW H × List MemPlace}
  (hval : Value.okWide Try.prog w r b0 22 v) (hf : DataW.trod enc Try.prog w base (fun _ => true) held fuel 22 v.cells.toList = some x) :
  ∃ a n c l,v = .slice a n c ∧ repC w v = true ∧ n ≤ c ∧ c ≤ maxLen ∧ Ints h .i64 a n l ∧ ∀ x ∈ l,(Lit.int .i64 x).wf = true:=
 ints_arg hn hm Try.underlying22 Try.underlying3 cells3 hval hf
end Go.Proofs.Ytcdoknkgbnaefaa
