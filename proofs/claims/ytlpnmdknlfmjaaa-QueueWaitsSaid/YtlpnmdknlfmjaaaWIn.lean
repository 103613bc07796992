/-
  A LIST OF NUMBERS THAT CAME IN.
-/
import Derived.Test.YtlpnmdknlfmjaaaQIn
namespace Go.Proofs.Ytlpnmdknlfmjaaa
open Go.Sim
set_option linter.unusedVariables false
set_option maxRecDepth 100000

theorem cells3' : Try.prog.cellsOf 3 = 1 := by kernel_rfl

theorem ints_in {w : World} {h : AHeap} (hn : h.next = w.heap.size) (hm : ∀ b, b < w.heap.size → h.m.get b = absB w b) {H : Type} {enc : TypeId × Value → H} {base fuel b0 : Nat} {sp : Nat → Bool} {held : Bool} {r : Reach} {v : Value} {x : DataW H × List MemPlace}
    (hval : Value.okWide Try.prog w r b0 31 v) (hf : DataW.trod enc Try.prog w base sp held fuel 31 v.cells.toList = some x) :
    ∃ a n c l, v = .slice a n c ∧ repC w v = true ∧ n ≤ c ∧ c ≤ maxLen ∧ Ints h .i64 a n l ∧ ∀ x ∈ l, -9223372036854775808 ≤ x ∧ x < 9223372036854775808 := by
  obtain ⟨a, n, c, l, h1, h2, h3, h4, h5, h6⟩ := ints_arg hn hm Try.underlying31 Try.underlying3 cells3' hval hf
  refine ⟨a, n, c, l, h1, h2, h3, h4, h5, fun x hx => ?_⟩
  have := h6 x hx
  simp [Lit.wf, IntKind.min, IntKind.max, IntKind.signed, IntKind.bits] at this; omega

end Go.Proofs.Ytlpnmdknlfmjaaa
