/-
  Corrections: greater points have greater values; the inverse takes values back.
-/
import Derived.Test.YtnokkniofajnhaaQuP
namespace Go.Proofs.Ytnokkniofajnhaa
set_option linter.unusedVariables false

theorem line_lt {t : List Kn} (c : Corr t) {i : Int} (i0 : 1 ≤ i) (i1 : i < t.length) {x y : Rat} (h : x < y) : lineQ t i x < lineQ t i y := by
  have h1 := (c.incr i (by omega) i1).1
  have h2 := (c.incr i (by omega) i1).2
  unfold lineQ
  generalize kx t i = a at *
  generalize kx t (i - 1) = b at *
  generalize ky t i = u at *
  generalize ky t (i - 1) = v at *
  have e : v + (u - v) * (y - b) / (a - b) = v + (u - v) * (x - b) / (a - b) + (u - v) * (y - x) * (a - b)⁻¹ := by grind
  rw [e]
  have p1 : 0 < (a - b)⁻¹ := Rat.inv_pos.2 (by grind)
  have p2 : 0 < (u - v) * (y - x) := Rat.mul_pos (by grind) (by grind)
  have p3 := Rat.mul_pos p2 p1
  grind
theorem line_le {t : List Kn} (c : Corr t) {i : Int} (i0 : 1 ≤ i) (i1 : i < t.length) {x y : Rat} (h : x ≤ y) : lineQ t i x ≤ lineQ t i y := by
  by_cases e : x = y
  · rw [e]; exact Rat.le_refl
  · exact Rat.le_of_lt (line_lt c i0 i1 (by grind))
theorem ValQ.ends {t : List Kn} (c : Corr t) {i : Int} (i0 : 1 ≤ i) (i1 : i < t.length) {x : Rat} (h1 : kx t (i - 1) ≤ x) (h2 : x ≤ kx t i) : ky t (i - 1) ≤ lineQ t i x ∧ lineQ t i x ≤ ky t i := by
  have a := line_le c i0 i1 h1
  have b := line_le c i0 i1 h2
  rw [line_start c i0 i1] at a
  rw [line_end c i0 i1] at b
  exact ⟨a, b⟩
theorem ValQ.lt {t : List Kn} (c : Corr t) {x y v w : Rat} (h : ValQ t x v) (k : ValQ t y w) (hxy : x < y) : v < w := by
  have hh := h
  have kk := k
  obtain ⟨i, i0, i1, h1, h2, rfl⟩ := h
  obtain ⟨j, j0, j1, k1, k2, rfl⟩ := k
  rcases Int.lt_trichotomy i j with e | e | e
  · -- v ≤ ky i ≤ ky (j - 1) ≤ w
    obtain ⟨_, a⟩ := ValQ.ends c i0 i1 h1 h2
    obtain ⟨b, _⟩ := ValQ.ends c j0 j1 k1 k2
    by_cases q : i = j - 1
    · by_cases z : x = kx t i
      · have y1 : kx t (j - 1) < y := by rw [← q, ← z]; exact hxy
        have := line_lt c j0 j1 y1
        rw [line_start c j0 j1, ← q] at this
        grind
      · have x1 : x < kx t i := by grind
        have := line_lt c i0 i1 x1
        rw [line_end c i0 i1] at this
        rw [← q] at b
        grind
    · have := (c.mono (i := i) (j := j - 1) (by omega) (by omega) (by omega)).2
      grind
  · subst e
    exact line_lt c i0 i1 hxy
  · exfalso
    by_cases q : j = i - 1
    · rw [q] at k2
      grind
    · have := (c.mono (i := j) (j := i - 1) (by omega) (by omega) (by omega)).1
      grind
theorem ValQ.iff {t : List Kn} (c : Corr t) {x y v w : Rat} (h : ValQ t x v) (k : ValQ t y w) : (x < y ↔ v < w) ∧ (x = y ↔ v = w) := by
  have a := fun q => ValQ.lt c h k q
  have b := fun q => ValQ.lt c k h q
  have e : x = y → v = w := fun q => by subst q; exact h.uniq c k
  constructor
  · constructor
    · exact a
    · intro q
      rcases (show x < y ∨ x = y ∨ y < x by grind) with z | z | z
      · exact z
      · have := e z; grind
      · have := b z; grind
  · constructor
    · exact e
    · intro q
      rcases (show x < y ∨ x = y ∨ y < x by grind) with z | z | z
      · have := a z; grind
      · exact z
      · have := b z; grind

/-- Knots with X and Y exchanged. -/
def turnK (t : List Kn) : List Kn := t.map fun k => (k.2, k.1)
theorem turn_len (t : List Kn) : (turnK t).length = t.length := by unfold turnK; simp
theorem turn_x {t : List Kn} {i : Int} (i0 : 0 ≤ i) (i1 : i < t.length) : kx (turnK t) i = ky t i ∧ ky (turnK t) i = kx t i := by
  unfold kx ky turnK
  rw [List.getD, List.getD, List.getElem?_map, List.getElem?_eq_getElem (by omega)]
  exact ⟨rfl, rfl⟩
theorem turn_turn (t : List Kn) : turnK (turnK t) = t := by
  unfold turnK
  rw [List.map_map]
  have : ((fun k : Kn => (k.2, k.1)) ∘ fun k : Kn => (k.2, k.1)) = id := rfl
  rw [this, List.map_id]
theorem Corr.turn {t : List Kn} (c : Corr t) : Corr (turnK t) := by
  refine ⟨by rw [turn_len]; exact c.two, by rw [turn_len]; exact c.most, fun i i0 i1 => ?_, fun i i0 i1 => ?_⟩ <;> rw [turn_len] at i1
  · obtain ⟨e1, e2⟩ := turn_x i0 i1
    rw [e1, e2]
    exact ⟨(c.small i i0 i1).2, (c.small i i0 i1).1⟩
  · obtain ⟨e1, e2⟩ := turn_x (t := t) (i := i) (by omega) i1
    obtain ⟨f1, f2⟩ := turn_x (t := t) (i := i - 1) (by omega) (by omega)
    rw [e1, e2, f1, f2]
    exact ⟨(c.incr i i0 i1).2, (c.incr i i0 i1).1⟩
theorem ValQ.back {t : List Kn} (c : Corr t) {x v : Rat} (h : ValQ t x v) : ValQ (turnK t) v x := by
  obtain ⟨i, i0, i1, h1, h2, rfl⟩ := h
  obtain ⟨a, b⟩ := ValQ.ends c i0 i1 h1 h2
  obtain ⟨e1, e2⟩ := turn_x (t := t) (i := i) (by omega) i1
  obtain ⟨f1, f2⟩ := turn_x (t := t) (i := i - 1) (by omega) (by omega)
  refine ⟨i, i0, by rw [turn_len]; exact i1, by rw [f1]; exact a, by rw [e1]; exact b, ?_⟩
  have g1 := (c.incr i (by omega) i1).1
  have g2 := (c.incr i (by omega) i1).2
  unfold lineQ
  rw [e1, e2, f1, f2]
  generalize kx t i = a at *
  generalize kx t (i - 1) = b at *
  generalize ky t i = u at *
  generalize ky t (i - 1) = v at *
  grind
theorem ValQ.knot {t : List Kn} (c : Corr t) {i : Int} (i0 : 0 ≤ i) (i1 : i < t.length) : ValQ t (kx t i) (ky t i) := by
  have h2 := c.two
  by_cases q : 1 ≤ i
  · exact ⟨i, q, i1, Rat.le_of_lt (c.incr i (by omega) i1).1, Rat.le_refl, (line_end c q i1).symm⟩
  · have e : i = 1 - 1 := by omega
    rw [e]
    exact ⟨1, by omega, by omega, Rat.le_refl, Rat.le_of_lt (c.incr 1 (by omega) (by omega)).1, (line_start c (by omega) (by omega)).symm⟩
theorem ValQ.dom {t : List Kn} (c : Corr t) {x v : Rat} (h : ValQ t x v) : kx t 0 ≤ x ∧ x ≤ kx t (t.length - 1) := by
  obtain ⟨i, i0, i1, h1, h2, _⟩ := h
  constructor
  · by_cases q : i - 1 = 0
    · rw [q] at h1; exact h1
    · have := (c.mono (i := 0) (j := i - 1) (by omega) (by omega) (by omega)).1
      grind
  · by_cases q : i = t.length - 1
    · rw [← q]; exact h2
    · have := (c.mono (i := i) (j := t.length - 1) (by omega) (by omega) (by omega)).1
      grind

end Go.Proofs.Ytnokkniofajnhaa
