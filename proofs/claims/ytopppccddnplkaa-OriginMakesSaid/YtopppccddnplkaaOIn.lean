/-
  What came in: names, bytes and records, in the abstract heap of a world.
-/
import Derived.Test.YtopppccddnplkaaOProd
import Derived.Test.YtopppccddnplkaaSymD
namespace Go.Proofs.Ytopppccddnplkaa
open Go.Sim
set_option linter.unusedVariables false

theorem cells3 : Try.prog.cellsOf 3 = 1 := by kernel_rfl
theorem cells5 : Try.prog.cellsOf 5 = 1 := by kernel_rfl
theorem cells9 : Try.prog.cellsOf 9 = 1 := by kernel_rfl
theorem cells23 : Try.prog.cellsOf 23 = 1 := by kernel_rfl
theorem cells35 : Try.prog.cellsOf 35 = 1 := by kernel_rfl
theorem cells46 : Try.prog.cellsOf 46 = 6 := by kernel_rfl
theorem len6 {l : List Value} (h : l.length = 6) : ∃ a b c d e f, l = [a, b, c, d, e, f] := by
  match l, h with
  | [a, b, c, d, e, f], _ => exact ⟨a, b, c, d, e, f, rfl⟩
theorem wf64_of {n : Int} (h : (Lit.int .i64 n).wf = true) : -9223372036854775808 ≤ n ∧ n < 9223372036854775808 := by
  simp [Lit.wf, IntKind.min, IntKind.max, IntKind.signed, IntKind.bits] at h; omega
theorem wf8_of {n : Int} (h : (Lit.int .u8 n).wf = true) : 0 ≤ n ∧ n < 256 := by
  simp [Lit.wf, IntKind.min, IntKind.max, IntKind.signed, IntKind.bits] at h; omega

theorem rep_slice {w : World} {a : Addr} {len cap : Nat} (h1 : a.spot = none) (h2 : isCells w a.block = true) (h3 : cap ≤ maxLen) : absV w (.slice (some a) len cap) = .slice (some a) len cap := by
  unfold absV
  have h4 : cap < slack := by unfold maxLen at h3; unfold slack; omega
  rw [if_pos]
  show (a.spot.isNone && decide (cap < slack) && isCells w a.block) = true
  rw [h1, h2]
  simp [h4]
theorem flat_one {α : Type} (f : α → Value) (l : List α) : (l.flatMap fun x => [f x]) = l.map f := by
  induction l with
  | nil => rfl
  | cons x l ih => rw [List.flatMap_cons, ih]; rfl
theorem cap_of {n c : Nat} (h : n ≤ c) (hc : c ≤ maxLen) : n ≤ capLow c := by
  rw [capLow_lt (by unfold maxLen at hc; unfold slack; omega)]; exact h

/-- A slice of one-celled values that lies in a cell. -/
theorem row_in {w : World} {h : AHeap} (hn : h.next = w.heap.size) (hm : ∀ b, b < w.heap.size → h.m.get b = absB w b) {t e : TypeId} (hu : Try.prog.underlying t = some (.slice e)) (hce : Try.prog.cellsOf e = 1) {α : Type} (f : α → Value) (G : α → Prop)
    {base d : Nat} (hdec : ∀ l, TS Try.prog w base d e l → ∃ x, l.map (absV w) = [f x] ∧ G x) {l : List Value} (hl : TS Try.prog w base (d + 1) t l) : ∃ (a : Option Addr) (n c : Nat) (xs : List α), l.map (absV w) = [.slice a n c] ∧ RowV h a n c (xs.map f) ∧ ∀ x ∈ xs, G x := by
  have hts := hl
  unfold TS at hl
  rw [hu] at hl
  have go : ∀ (a : Addr) (len cap : Nat), a.spot = none → isCells w a.block = true → cap ≤ maxLen → TS Try.prog w base (d + 1) t [.slice (some a) len cap] → ∃ (a' : Option Addr) (n c : Nat) (xs : List α), [Value.slice (some a) len cap].map (absV w) = [.slice a' n c] ∧ RowV h a' n c (xs.map f) ∧ ∀ x ∈ xs, G x := by
    intro a len cap h1 h2 h3 ht
    obtain ⟨xs, k1, k2, k3, k4, k5⟩ := slice_in hn hm hu ht ⟨(fun q => by cases q), fun x hx => by cases hx; exact ⟨h1, h2⟩⟩ (fun n => [f n]) (es := 1) hce (by omega) (fun _ => rfl) G hdec
    rw [flat_one] at k4
    refine ⟨some a, len, cap, xs, ?_, .inl ⟨k4, (fun q => by cases q), cap_of k2 k3⟩, k5⟩
    show [absV w (.slice (some a) len cap)] = _
    rw [rep_slice h1 h2 h3]
  rcases hl with rfl | ⟨a, len, cap, rfl, h2, h3, h4, h5⟩
  · exact ⟨none, 0, 0, [], rfl, .inl ⟨⟨rfl, rfl⟩, fun _ => rfl, Nat.zero_le _⟩, fun x hx => by simp at hx⟩
  · by_cases hc : 0 < cap
    · obtain ⟨s1, s2⟩ := h5 hc (by rw [hce]; omega)
      exact go a len cap s1 s2 h3 hts
    · have hc0 : cap = 0 := by omega
      have hl0 : len = 0 := by omega
      subst hc0 hl0
      by_cases hr : a.spot = none ∧ isCells w a.block = true
      · exact go a 0 0 hr.1 hr.2 h3 hts
      · refine ⟨some ⟨0, 0, some 0⟩, 0, 0, [], ?_, .inr ⟨rfl, rfl, rfl, rfl⟩, fun x hx => by simp at hx⟩
        show [absV w (.slice (some a) 0 0)] = _
        have : repV w (.slice (some a) 0 0) = false := by
          show (a.spot.isNone && decide (0 < slack) && isCells w a.block) = false
          cases hs : a.spot with
          | some s => rfl
          | none =>
            have : isCells w a.block = false := by
              cases hi : isCells w a.block with
              | false => rfl
              | true => exact absurd ⟨hs, hi⟩ hr
            rw [this]; simp
        unfold absV
        rw [this]
        rfl

theorem str_dec {w : World} {base d : Nat} {l : List Value} (h : TS Try.prog w base d 9 l) : ∃ x : Str, l.map (absV w) = [.string x] ∧ True := by
  cases d with
  | zero => exact h.elim
  | succ d =>
    obtain ⟨s, rfl, _⟩ := ts_string Try.underlying9 h
    exact ⟨s, rfl, trivial⟩
theorem byte_dec {w : World} {base d : Nat} {l : List Value} (h : TS Try.prog w base d 5 l) : ∃ x : Int, l.map (absV w) = [.int .u8 x] ∧ (0 ≤ x ∧ x < 256) := by
  cases d with
  | zero => exact h.elim
  | succ d =>
    obtain ⟨s, rfl, q⟩ := ts_int Try.underlying5 h
    exact ⟨s, rfl, wf8_of q⟩

theorem rec_in {w : World} {h : AHeap} (hn : h.next = w.heap.size) (hm : ∀ b, b < w.heap.size → h.m.get b = absB w b) {base d : Nat} {l : List Value} (hl : TS Try.prog w base d 46 l) : ∃ p : RH × Rec, l.map (absV w) = p.1.cells ∧ RelR h p.1 p.2 ∧ okR p.2 := by
  cases d with
  | zero => exact hl.elim
  | succ d =>
    obtain ⟨h1, h2⟩ := ts_struct Try.underlying46 hl
    rw [cells46] at h1
    obtain ⟨v0, v1, v2, v3, v4, v5, rfl⟩ := len6 h1
    simp only [List.forall_mem_cons, List.not_mem_nil, false_imp_iff, implies_true, and_true, cells3, cells5, cells9, cells23, cells35, List.drop, List.take] at h2
    obtain ⟨g0, g1, g2, g3, g4, g5⟩ := h2
    cases d with
    | zero => exact g0.elim
    | succ d =>
      obtain ⟨nm, e0, _⟩ := ts_string Try.underlying9 g0
      obtain ⟨hw, e1, w1⟩ := ts_int Try.underlying5 g1
      obtain ⟨fa, fn, fc, fs, e2, r2, _⟩ := row_in hn hm Try.underlying35 cells9 Value.string (fun _ => True) (fun l hl => str_dec hl) g2
      obtain ⟨ar, e3, w3⟩ := ts_int Try.underlying3 g3
      obtain ⟨da, dn, dc, bs, e4, r4, q4⟩ := row_in hn hm Try.underlying23 cells5 (Value.int .u8) (fun x => 0 ≤ x ∧ x < 256) (fun l hl => byte_dec hl) g4
      obtain ⟨di, e5, w5⟩ := ts_int Try.underlying3 g5
      simp only [List.map_cons, List.map_nil, List.cons.injEq, and_true] at e0 e1 e2 e3 e4 e5
      subst e0 e1 e3 e5
      refine ⟨(⟨nm, hw, fa, fn, fc, ar, da, dn, dc, di⟩, ⟨nm, hw, fs, ar, bs, di⟩), ?_, ⟨rfl, rfl, rfl, rfl, r2, r4⟩, q4, (wf8_of w1).1, (wf8_of w1).2, (wf64_of w3).1, (wf64_of w3).2⟩
      simp only [List.map_cons, List.map_nil, e2, e4]
      rfl

theorem recs_in {w : World} {h : AHeap} (hn : h.next = w.heap.size) (hm : ∀ b, b < w.heap.size → h.m.get b = absB w b) {H : Type} {enc : TypeId × Value → H} {base fuel b0 : Nat} {held : Bool} {r : Reach} {v : Value} {x : DataW H × List MemPlace}
    (hval : Value.okWide Try.prog w r b0 22 v) (hf : DataW.trod enc Try.prog w base (fun _ => true) held fuel 22 v.cells.toList = some x) :
    ∃ a n c l, v = .slice a n c ∧ repC w v = true ∧ n ≤ capLow c ∧ n ≤ maxLen ∧ Recs h a n l ∧ ∀ y ∈ l, okR y := by
  obtain ⟨a, n, c, d, rfl, hr, hrep, rfl, hts⟩ := value_slice Try.underlying22 hval hf
  obtain ⟨xs, k1, k2, k3, k4, k5⟩ := slice_in hn hm Try.underlying22 hts hrep (fun p : RH × Rec => p.1.cells) cells46 (by omega) (fun _ => rfl) (fun p => RelR h p.1 p.2 ∧ okR p.2) (fun l hl => by obtain ⟨p, q1, q2⟩ := rec_in hn hm hl; exact ⟨p, q1, q2⟩)
  refine ⟨a, n, c, xs.map (·.2), rfl, hr, cap_of k2 k3, by omega, ⟨xs.map (·.1), ?_, by simp, fun i y s hy hs => ?_⟩, fun y hy => ?_⟩
  · unfold flatR
    rw [List.flatMap_map]
    exact k4
  · rw [List.getElem?_map, Option.map_eq_some_iff] at hy hs
    obtain ⟨p, hp, rfl⟩ := hy
    obtain ⟨q, hq, rfl⟩ := hs
    rw [hp] at hq
    cases hq
    exact (k5 p (List.mem_of_getElem? hp)).1
  · rw [List.mem_map] at hy
    obtain ⟨p, hp, rfl⟩ := hy
    exact (k5 p hp).2

theorem recs_in2 {w : World} {h : AHeap} (hn : h.next = w.heap.size) (hm : ∀ b, b < w.heap.size → h.m.get b = absB w b) {H : Type} {enc : TypeId × Value → H} {base fuel b0 : Nat} {held : Bool} {r : Reach} {v : Value} {x : DataW H × List MemPlace}
    (hval : Value.okWide Try.prog w r b0 22 v) (hf : DataW.trod enc Try.prog w base (fun _ => true) held fuel 22 v.cells.toList = some x) :
    ∃ a n c l, v = .slice a n c ∧ repC w v = true ∧ n ≤ capLow c ∧ n ≤ maxLen ∧ Recs h a n l ∧ (∀ y ∈ l, okR y) ∧ c < slack := by
  obtain ⟨a, n, c, d, rfl, hr, hrep, rfl, hts⟩ := value_slice Try.underlying22 hval hf
  obtain ⟨xs, k1, k2, k3, k4, k5⟩ := slice_in hn hm Try.underlying22 hts hrep (fun p : RH × Rec => p.1.cells) cells46 (by omega) (fun _ => rfl) (fun p => RelR h p.1 p.2 ∧ okR p.2) (fun l hl => by obtain ⟨p, q1, q2⟩ := rec_in hn hm hl; exact ⟨p, q1, q2⟩)
  refine ⟨a, n, c, xs.map (·.2), rfl, hr, cap_of k2 k3, by omega, ⟨xs.map (·.1), ?_, by simp, fun i y s hy hs => ?_⟩, fun y hy => ?_, by unfold maxLen at k3; unfold slack; omega⟩
  · unfold flatR
    rw [List.flatMap_map]
    exact k4
  · rw [List.getElem?_map, Option.map_eq_some_iff] at hy hs
    obtain ⟨p, hp, rfl⟩ := hy
    obtain ⟨q, hq, rfl⟩ := hs
    rw [hp] at hq
    cases hq
    exact (k5 p (List.mem_of_getElem? hp)).1
  · rw [List.mem_map] at hy
    obtain ⟨p, hp, rfl⟩ := hy
    exact (k5 p hp).2

theorem strs_in {w : World} {h : AHeap} (hn : h.next = w.heap.size) (hm : ∀ b, b < w.heap.size → h.m.get b = absB w b) {H : Type} {enc : TypeId × Value → H} {base fuel b0 : Nat} {held : Bool} {r : Reach} {v : Value} {x : DataW H × List MemPlace}
    (hval : Value.okWide Try.prog w r b0 35 v) (hf : DataW.trod enc Try.prog w base (fun _ => true) held fuel 35 v.cells.toList = some x) :
    ∃ a n c l, v = .slice a n c ∧ repC w v = true ∧ n ≤ maxLen ∧ Strs h a n c l := by
  obtain ⟨a, n, c, d, rfl, hr, hrep, rfl, hts⟩ := value_slice Try.underlying35 hval hf
  obtain ⟨xs, k1, k2, k3, k4, k5⟩ := slice_in hn hm Try.underlying35 hts hrep (fun s : Str => [.string s]) cells9 (by omega) (fun _ => rfl) (fun _ => True) (fun l hl => str_dec hl)
  rw [flat_one] at k4
  exact ⟨a, n, c, xs, rfl, hr, by omega, .inl ⟨k4, fun q => (hrep.1 q).2, cap_of k2 k3⟩⟩

theorem byts_in {w : World} {h : AHeap} (hn : h.next = w.heap.size) (hm : ∀ b, b < w.heap.size → h.m.get b = absB w b) {H : Type} {enc : TypeId × Value → H} {base fuel b0 : Nat} {held : Bool} {r : Reach} {v : Value} {x : DataW H × List MemPlace}
    (hval : Value.okWide Try.prog w r b0 23 v) (hf : DataW.trod enc Try.prog w base (fun _ => true) held fuel 23 v.cells.toList = some x) :
    ∃ a n c l, v = .slice a n c ∧ repC w v = true ∧ n ≤ maxLen ∧ Byts h a n c l ∧ okB l := by
  obtain ⟨a, n, c, d, rfl, hr, hrep, rfl, hts⟩ := value_slice Try.underlying23 hval hf
  obtain ⟨xs, k1, k2, k3, k4, k5⟩ := slice_in hn hm Try.underlying23 hts hrep (fun s : Int => [.int .u8 s]) cells5 (by omega) (fun _ => rfl) (fun x => 0 ≤ x ∧ x < 256) (fun l hl => byte_dec hl)
  rw [flat_one] at k4
  exact ⟨a, n, c, xs, rfl, hr, by omega, .inl ⟨k4, fun q => (hrep.1 q).2, cap_of k2 k3⟩, k5⟩

end Go.Proofs.Ytopppccddnplkaa
