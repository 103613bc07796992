/-
  A QUEUE THAT CAME IN, in the abstract heap of a world.
-/
import Derived.Test.YtlpnmdknlfmjaaaQData
import Derived.Test.YtlpnmdknlfmjaaaSymD
namespace Go.Proofs.Ytlpnmdknlfmjaaa
open Go.Sim
set_option linter.unusedVariables false

def wf64 (n : Int) : Prop := -9223372036854775808 ≤ n ∧ n < 9223372036854775808
theorem wf64_of {n : Int} (h : (Lit.int .i64 n).wf = true) : wf64 n := by
  unfold wf64
  simp [Lit.wf, IntKind.min, IntKind.max, IntKind.signed, IntKind.bits] at h; omega
def wfP (p : Proj) : Prop := p.name.size ≤ maxLen ∧ wf64 p.share ∧ wf64 p.used ∧ wf64 p.waiting

theorem cells55 : Try.prog.cellsOf 55 = 4 := by kernel_rfl
theorem cells22 : Try.prog.cellsOf 22 = 1 := by kernel_rfl
theorem cells24 : Try.prog.cellsOf 24 = 3 := by kernel_rfl
theorem cells9 : Try.prog.cellsOf 9 = 1 := by kernel_rfl
theorem cells3 : Try.prog.cellsOf 3 = 1 := by kernel_rfl
theorem types24 : Try.prog.cellTypes Try.prog.depth 24 = some [22, 3, 3] := by kernel_rfl

theorem len4 {l : List Value} (h : l.length = 4) : ∃ a b c d, l = [a, b, c, d] := by
  match l, h with
  | [a, b, c, d], _ => exact ⟨a, b, c, d, rfl⟩
theorem len3 {l : List Value} (h : l.length = 3) : ∃ a b c, l = [a, b, c] := by
  match l, h with
  | [a, b, c], _ => exact ⟨a, b, c, rfl⟩

theorem proj_in {w : World} {base d : Nat} {l : List Value} (h : TS Try.prog w base d 55 l) : ∃ p : Proj, l.map (absV w) = p.cells ∧ wfP p := by
  cases d with
  | zero => exact h.elim
  | succ d =>
    obtain ⟨h1, h2⟩ := ts_struct Try.underlying55 h
    rw [cells55] at h1
    obtain ⟨a, b, c, e, rfl⟩ := len4 h1
    simp only [List.forall_mem_cons, List.not_mem_nil, false_imp_iff, implies_true, and_true, cells9, cells3, List.drop, List.take] at h2
    obtain ⟨g0, g1, g2, g3⟩ := h2
    cases d with
    | zero => exact g0.elim
    | succ d =>
      obtain ⟨s, e0, w0⟩ := ts_string Try.underlying9 g0
      obtain ⟨x, e1, w1⟩ := ts_int Try.underlying3 g1
      obtain ⟨y, e2, w2⟩ := ts_int Try.underlying3 g2
      obtain ⟨z, e3, w3⟩ := ts_int Try.underlying3 g3
      simp only [List.cons.injEq, and_true] at e0 e1 e2 e3
      subst e0 e1 e2 e3
      exact ⟨⟨s, x, y, z⟩, rfl, w0, wf64_of w1, wf64_of w2, wf64_of w3⟩

theorem queue_in {w : World} {h : AHeap} (hn : h.next = w.heap.size) (hm : ∀ b, b < w.heap.size → h.m.get b = absB w b) {H : Type} {enc : TypeId × Value → H} {base fuel b0 : Nat} {sp : Nat → Bool} {held : Bool} {r : Reach} {v : Value} {x : DataW H × List MemPlace}
    (hval : Value.okWide Try.prog w r b0 24 v) (hf : DataW.trod enc Try.prog w base sp held fuel 24 v.cells.toList = some x) :
    ∃ a n c nu de l, v = .agg #[.slice a n c, .int .i64 nu, .int .i64 de] ∧ repC w v = true ∧ n ≤ c ∧ c ≤ maxLen ∧ Projs h a n l ∧ (∀ p ∈ l, wfP p) ∧ wf64 nu ∧ wf64 de := by
  obtain ⟨cs, rfl, hsz, hrow⟩ : ∃ cs, v = .agg cs ∧ cs.size = Try.prog.cellsOf 24 ∧ Row.okWide Try.prog w r b0 24 cs := by
    unfold Value.okWide at hval; rw [Try.underlying24] at hval; exact hval
  have hts := ts_of_trod _ _ _ _ hf
  rw [cells24] at hsz
  obtain ⟨v0, v1, v2, hcs⟩ := len3 (l := cs.toList) (by simpa using hsz)
  obtain rfl : cs = #[v0, v1, v2] := by cases cs; simp_all
  have hts : TS Try.prog w base fuel 24 [v0, v1, v2] := hts
  cases fuel with
  | zero => exact hts.elim
  | succ d =>
    obtain ⟨_, h2⟩ := ts_struct Try.underlying24 hts
    simp only [List.forall_mem_cons, List.not_mem_nil, false_imp_iff, implies_true, and_true, cells22, cells3, List.drop, List.take] at h2
    obtain ⟨g0, g1, g2⟩ := h2
    cases d with
    | zero => exact g0.elim
    | succ d =>
      obtain ⟨y, e1, w1⟩ := ts_int Try.underlying3 g1
      obtain ⟨z, e2, w2⟩ := ts_int Try.underlying3 g2
      simp only [List.cons.injEq, and_true] at e1 e2
      subst e1 e2
      obtain ⟨a, n, c, rfl, hr, hrep⟩ := cell_slice Try.underlying22 (row_cell hrow types24 (i := 0) (u := 22) rfl rfl)
      obtain ⟨xs, k1, k2, k3, k4, k5⟩ := slice_in hn hm Try.underlying22 g0 hrep Proj.cells cells55 (by omega) (fun _ => rfl) wfP (fun l hl => proj_in hl)
      exact ⟨a, n, c, y, z, xs, rfl, by simp only [repC, List.all_cons, List.all_nil, hr]; rfl, k2, k3, ⟨k4⟩, k5, wf64_of w1, wf64_of w2⟩

end Go.Proofs.Ytlpnmdknlfmjaaa
