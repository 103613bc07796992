/-
  What came in: a cleaning.
-/
import Derived.Test.YtogofeppflindaaCIn
import Derived.Test.YtogofeppflindaaCCheck
namespace Go.Proofs.Ytogofeppflindaa
open Go.Sim
set_option linter.unusedVariables false

theorem cells24 : Try.prog.cellsOf 24 = 4 := by kernel_rfl
theorem len4 {l : List Value} (h : l.length = 4) : ∃ a b c d, l = [a, b, c, d] := by
  match l, h with
  | [a, b, c, d], _ => exact ⟨a, b, c, d, rfl⟩

theorem cln_in {w : World} {h : AHeap} (hn : h.next = w.heap.size) (hm : ∀ b, b < w.heap.size → h.m.get b = absB w b) {H : Type} {enc : TypeId × Value → H} {base fuel b0 : Nat} {held : Bool} {r : Reach} {v : Value} {x : DataW H × List MemPlace}
    (hval : Value.okWide Try.prog w r b0 24 v) (hf : DataW.trod enc Try.prog w base (fun _ => true) held fuel 24 v.cells.toList = some x) :
    ∃ num den floor steps, v = .agg #[.int .i64 num, .int .i64 den, .int .i64 floor, .int .i64 steps] ∧ repC w v = true := by
  obtain ⟨cs, rfl, hsz, hrow⟩ : ∃ cs, v = .agg cs ∧ cs.size = Try.prog.cellsOf 24 ∧ Row.okWide Try.prog w r b0 24 cs := by
    unfold Value.okWide at hval; rw [Try.underlying24] at hval; exact hval
  have hts := ts_of_trod (fun _ => rfl) _ _ _ _ hf
  rw [cells24] at hsz
  obtain ⟨v0, v1, v2, v3, hcs⟩ := len4 (l := cs.toList) (by simpa using hsz)
  obtain rfl : cs = #[v0, v1, v2, v3] := by cases cs; simp_all
  have hts : TS Try.prog w base fuel 24 [v0, v1, v2, v3] := hts
  cases fuel with
  | zero => exact hts.elim
  | succ d =>
    obtain ⟨_, h2⟩ := ts_struct Try.underlying24 hts
    simp only [List.forall_mem_cons, List.not_mem_nil, false_imp_iff, implies_true, and_true, cells3, List.drop, List.take] at h2
    obtain ⟨g0, g1, g2, g3⟩ := h2
    cases d with
    | zero => exact g0.elim
    | succ d =>
      obtain ⟨x0, e0, w0⟩ := ts_int Try.underlying3 g0
      obtain ⟨x1, e1, w1⟩ := ts_int Try.underlying3 g1
      obtain ⟨x2, e2, w2⟩ := ts_int Try.underlying3 g2
      obtain ⟨x3, e3, w3⟩ := ts_int Try.underlying3 g3
      simp only [List.cons.injEq, and_true] at e0 e1 e2 e3
      subst e0 e1 e2 e3
      exact ⟨x0, x1, x2, x3, rfl, by simp only [repC, List.all_cons, List.all_nil]; rfl⟩

end Go.Proofs.Ytogofeppflindaa
