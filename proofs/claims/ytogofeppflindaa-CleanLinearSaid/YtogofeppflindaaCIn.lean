/-
  What came in: images and logs, in the abstract heap of a world.
-/
import Derived.Test.YtogofeppflindaaCRef
import Derived.Test.YtogofeppflindaaSymD
namespace Go.Proofs.Ytogofeppflindaa
open Go.Sim
set_option linter.unusedVariables false

theorem cells52 : Try.prog.cellsOf 52 = 1 := by kernel_rfl
theorem cells3 : Try.prog.cellsOf 3 = 1 := by kernel_rfl
theorem cells56 : Try.prog.cellsOf 56 = 3 := by kernel_rfl
theorem len3 {l : List Value} (h : l.length = 3) : ∃ a b c, l = [a, b, c] := by
  match l, h with
  | [a, b, c], _ => exact ⟨a, b, c, rfl⟩

theorem comp_in {w : World} {base d : Nat} {l : List Value} (h : TS Try.prog w base d 56 l) : ∃ p : Comp, l.map (absV w) = p.cells ∧ True := by
  cases d with
  | zero => exact h.elim
  | succ d =>
    obtain ⟨h1, h2⟩ := ts_struct Try.underlying56 h
    rw [cells56] at h1
    obtain ⟨a, b, c, rfl⟩ := len3 h1
    simp only [List.forall_mem_cons, List.not_mem_nil, false_imp_iff, implies_true, and_true, cells3, List.drop, List.take] at h2
    obtain ⟨g0, g1, g2⟩ := h2
    cases d with
    | zero => exact g0.elim
    | succ d =>
      obtain ⟨x, e1, w1⟩ := ts_int Try.underlying3 g0
      obtain ⟨y, e2, w2⟩ := ts_int Try.underlying3 g1
      obtain ⟨z, e3, w3⟩ := ts_int Try.underlying3 g2
      simp only [List.cons.injEq, and_true] at e1 e2 e3
      subst e1 e2 e3
      exact ⟨⟨x, y, z⟩, rfl, trivial⟩

theorem log_in {w : World} {h : AHeap} (hn : h.next = w.heap.size) (hm : ∀ b, b < w.heap.size → h.m.get b = absB w b) {H : Type} {enc : TypeId × Value → H} {base fuel b0 : Nat} {held : Bool} {r : Reach} {v : Value} {x : DataW H × List MemPlace}
    (hval : Value.okWide Try.prog w r b0 27 v) (hf : DataW.trod enc Try.prog w base (fun _ => true) held fuel 27 v.cells.toList = some x) :
    ∃ a n c l, v = .slice a n c ∧ repC w v = true ∧ n ≤ c ∧ c ≤ maxLen ∧ Log h a n l := by
  obtain ⟨a, n, c, d, rfl, hr, hrep, rfl, hts⟩ := value_slice Try.underlying27 hval hf
  obtain ⟨xs, k1, k2, k3, k4, k5⟩ := slice_in hn hm Try.underlying27 hts hrep Comp.cells cells56 (by omega) (fun _ => rfl) (fun _ => True) (fun l hl => comp_in hl)
  exact ⟨a, n, c, xs, rfl, hr, k2, k3, ⟨k4⟩⟩

theorem rep_slice {w : World} {a : Addr} {len cap : Nat} (h1 : a.spot = none) (h2 : isCells w a.block = true) (h3 : cap ≤ maxLen) : absV w (.slice (some a) len cap) = .slice (some a) len cap := by
  unfold absV
  have h4 : cap < slack := by unfold maxLen at h3; unfold slack; omega
  rw [if_pos]
  show (a.spot.isNone && decide (cap < slack) && isCells w a.block) = true
  rw [h1, h2]
  simp [h4]

theorem row_in {w : World} {h : AHeap} (hn : h.next = w.heap.size) (hm : ∀ b, b < w.heap.size → h.m.get b = absB w b) {base d : Nat} {l : List Value} (hl : TS Try.prog w base d 52 l) : ∃ p : Hd × List Int, l.map (absV w) = [p.1.val] ∧ Row h p.1.a p.1.n p.1.c p.2 := by
  cases d with
  | zero => exact hl.elim
  | succ d =>
    have hts := hl
    unfold TS at hl
    rw [Try.underlying52] at hl
    have go : ∀ (a : Addr) (len cap : Nat), a.spot = none → isCells w a.block = true → cap ≤ maxLen → TS Try.prog w base (d + 1) 52 [.slice (some a) len cap] → ∃ p : Hd × List Int, [Value.slice (some a) len cap].map (absV w) = [p.1.val] ∧ Row h p.1.a p.1.n p.1.c p.2 := by
      intro a len cap h1 h2 h3 ht
      obtain ⟨xs, k1, k2, k3, k4, k5⟩ := slice_in hn hm Try.underlying52 ht ⟨(fun q => by cases q), fun x hx => by cases hx; exact ⟨h1, h2⟩⟩ (fun n => [Value.int .i64 n]) (es := 1) cells3 (by omega) (fun _ => rfl) (fun n => True) (fun l hl => by
        cases d with
        | zero => exact hl.elim
        | succ d =>
          obtain ⟨y, rfl, hw⟩ := ts_int Try.underlying3 hl
          exact ⟨y, rfl, trivial⟩)
      rw [flat_ints] at k4
      refine ⟨(⟨some a, len, cap⟩, xs), ?_, .inl ⟨⟨k4⟩, fun q => by cases q⟩⟩
      show [absV w (.slice (some a) len cap)] = _
      rw [rep_slice h1 h2 h3]
      rfl
    rcases hl with rfl | ⟨a, len, cap, rfl, h2, h3, h4, h5⟩
    · exact ⟨(⟨none, 0, 0⟩, []), rfl, .inl ⟨⟨⟨rfl, rfl⟩⟩, fun _ => rfl⟩⟩
    · by_cases hc : 0 < cap
      · obtain ⟨s1, s2⟩ := h5 hc (by rw [cells3]; omega)
        exact go a len cap s1 s2 h3 hts
      · have hc0 : cap = 0 := by omega
        have hl0 : len = 0 := by omega
        subst hc0 hl0
        by_cases hr : a.spot = none ∧ isCells w a.block = true
        · exact go a 0 0 hr.1 hr.2 h3 hts
        · refine ⟨(⟨some ⟨0, 0, some 0⟩, 0, 0⟩, []), ?_, .inr ⟨rfl, rfl, rfl, rfl⟩⟩
          show [absV w (.slice (some a) 0 0)] = _
          have : repV w (.slice (some a) 0 0) = false := by
            show (a.spot.isNone && decide (0 < slack) && isCells w a.block) = false
            cases hs : a.spot with
            | some s => rfl
            | none =>
              have : isCells w a.block = false := by
                cases hi : isCells w a.block with
                | false => rfl
                | true => exact absurd ⟨hs, hi⟩ hr
              rw [this]; simp
          unfold absV
          rw [this]
          rfl

theorem flat_one {α : Type} (f : α → Value) (l : List α) : (l.flatMap fun x => [f x]) = l.map f := by
  induction l with
  | nil => rfl
  | cons x l ih => rw [List.flatMap_cons, ih]; rfl

theorem img_in {w : World} {h : AHeap} (hn : h.next = w.heap.size) (hm : ∀ b, b < w.heap.size → h.m.get b = absB w b) {H : Type} {enc : TypeId × Value → H} {base fuel b0 : Nat} {held : Bool} {r : Reach} {v : Value} {x : DataW H × List MemPlace}
    (hval : Value.okWide Try.prog w r b0 22 v) (hf : DataW.trod enc Try.prog w base (fun _ => true) held fuel 22 v.cells.toList = some x) :
    ∃ a n c g, v = .slice a n c ∧ repC w v = true ∧ n ≤ c ∧ c ≤ maxLen ∧ Img h a n g := by
  obtain ⟨a, n, c, d, rfl, hr, hrep, rfl, hts⟩ := value_slice Try.underlying22 hval hf
  obtain ⟨xs, k1, k2, k3, k4, k5⟩ := slice_in hn hm Try.underlying22 hts hrep (fun p : Hd × List Int => [p.1.val]) cells52 (by omega) (fun _ => rfl) (fun p => Row h p.1.a p.1.n p.1.c p.2) (fun l hl => row_in hn hm hl)
  refine ⟨a, n, c, xs.map (·.2), rfl, hr, k2, k3, ⟨xs.map (·.1), ?_, by simp, fun i y s hy hs => ?_⟩⟩
  · rw [flat_one] at k4
    rw [List.map_map]
    exact k4
  · rw [List.getElem?_map, Option.map_eq_some_iff] at hy hs
    obtain ⟨p, hp, rfl⟩ := hy
    obtain ⟨q, hq, rfl⟩ := hs
    rw [hp] at hq
    cases hq
    exact k5 p (List.mem_of_getElem? hp)

end Go.Proofs.Ytogofeppflindaa
