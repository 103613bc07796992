/-
  Corrections: knots, and the lines between them.
-/
import Derived.Test.YtnokkniofajnhaaFracB
namespace Go.Proofs.Ytnokkniofajnhaa
set_option linter.unusedVariables false

abbrev Kn := Rat × Rat
def kx (t : List Kn) (i : Int) : Rat := (t.getD i.toNat (0, 0)).1
def ky (t : List Kn) (i : Int) : Rat := (t.getD i.toNat (0, 0)).2
/-- A correction. -/
structure Corr (t : List Kn) : Prop where
  two : 2 ≤ t.length
  most : t.length ≤ 40
  small : ∀ i : Int, 0 ≤ i → i < t.length → bnd (kx t i) 100 100 ∧ bnd (ky t i) 100 100
  incr : ∀ i : Int, 0 < i → i < t.length → kx t (i - 1) < kx t i ∧ ky t (i - 1) < ky t i

theorem Corr.lt {t : List Kn} (c : Corr t) : ∀ (k : Nat) (i : Int), 0 ≤ i → i + k + 1 < t.length → kx t i < kx t (i + k + 1) ∧ ky t i < ky t (i + k + 1) := by
  intro k
  induction k with
  | zero =>
    intro i i0 i1
    have := c.incr (i + 1) (by omega) (by omega)
    rw [show i + 1 - 1 = i by omega] at this
    rw [show i + ((0 : Nat) : Int) + 1 = i + 1 by omega]
    exact this
  | succ k ih =>
    intro i i0 i1
    have h1 := ih i i0 (by omega)
    have h2 := c.incr (i + k + 1 + 1) (by omega) (by omega)
    rw [show i + (k : Int) + 1 + 1 - 1 = i + k + 1 by omega] at h2
    rw [show i + ((k + 1 : Nat) : Int) + 1 = i + k + 1 + 1 by omega]
    constructor
    · have a := h1.1; have b := h2.1; grind
    · have a := h1.2; have b := h2.2; grind
theorem Corr.mono {t : List Kn} (c : Corr t) {i j : Int} (i0 : 0 ≤ i) (h : i < j) (j1 : j < t.length) : kx t i < kx t j ∧ ky t i < ky t j := by
  have := c.lt (j - i - 1).toNat i i0 (by omega)
  rw [show i + ((j - i - 1).toNat : Int) + 1 = j by omega] at this
  exact this

/-- The value on the line that ends at a knot. -/
def lineQ (t : List Kn) (i : Int) (x : Rat) : Rat := ky t (i - 1) + (ky t i - ky t (i - 1)) * (x - kx t (i - 1)) / (kx t i - kx t (i - 1))
/-- A point's value. -/
def ValQ (t : List Kn) (x v : Rat) : Prop := ∃ i : Int, 1 ≤ i ∧ i < t.length ∧ kx t (i - 1) ≤ x ∧ x ≤ kx t i ∧ v = lineQ t i x

theorem line_end {t : List Kn} (c : Corr t) {i : Int} (i0 : 1 ≤ i) (i1 : i < t.length) : lineQ t i (kx t i) = ky t i := by
  have h := (c.incr i (by omega) i1).1
  unfold lineQ
  generalize kx t i = a at *
  generalize kx t (i - 1) = b at *
  generalize ky t i = u at *
  generalize ky t (i - 1) = v at *
  grind
theorem line_start {t : List Kn} (c : Corr t) {i : Int} (i0 : 1 ≤ i) (i1 : i < t.length) : lineQ t i (kx t (i - 1)) = ky t (i - 1) := by
  unfold lineQ
  generalize kx t i = a at *
  generalize kx t (i - 1) = b at *
  generalize ky t i = u at *
  generalize ky t (i - 1) = v at *
  have : b - b = 0 := by grind
  rw [this, Rat.mul_zero, Rat.div_def, Rat.zero_mul, Rat.add_zero]
theorem ValQ.uniq {t : List Kn} (c : Corr t) {x v w : Rat} (h : ValQ t x v) (k : ValQ t x w) : v = w := by
  have main : ∀ (i j : Int), 1 ≤ i → i < j → j < t.length → x ≤ kx t i → kx t (j - 1) ≤ x → lineQ t i x = lineQ t j x := by
    intro i j i0 ij j1 h1 h2
    have hij : i = j - 1 := by
      by_cases e : i = j - 1
      · exact e
      · have := (c.mono (i := i) (j := j - 1) (by omega) (by omega) (by omega)).1
        grind
    have hx : x = kx t i := by rw [← hij] at h2; grind
    rw [hx, line_end c i0 (by omega)]
    have := line_start c (i := j) (by omega) j1
    rw [← hij] at this
    exact this.symm
  obtain ⟨i, i0, i1, h1, h2, rfl⟩ := h
  obtain ⟨j, j0, j1, k1, k2, rfl⟩ := k
  rcases Int.lt_trichotomy i j with e | e | e
  · exact main i j i0 e j1 h2 k1
  · rw [e]
  · exact (main j i j0 e i1 k2 h1).symm

/-- The other form of a line's value. -/
theorem line_mean {t : List Kn} (c : Corr t) {i : Int} (i0 : 1 ≤ i) (i1 : i < t.length) (x : Rat) :
    (kx t i - x) / (kx t i - kx t (i - 1)) * ky t (i - 1) + (x - kx t (i - 1)) / (kx t i - kx t (i - 1)) * ky t i = lineQ t i x := by
  have h := (c.incr i (by omega) i1).1
  unfold lineQ
  generalize kx t i = a at *
  generalize kx t (i - 1) = b at *
  generalize ky t i = u at *
  generalize ky t (i - 1) = v at *
  grind

/-- How great what is reckoned is. -/
theorem line_bnd {t : List Kn} (c : Corr t) {i : Int} (i0 : 1 ≤ i) (i1 : i < t.length) {x : Rat} (hx : bnd x 10000 10000) :
    bnd (ky t i - ky t (i - 1)) 20000 10000 ∧ bnd (x - kx t (i - 1)) 2000000 1000000 ∧ bnd (kx t i - kx t (i - 1)) 20000 10000 ∧ bnd ((ky t i - ky t (i - 1)) * (x - kx t (i - 1))) 40000000000 10000000000 ∧
      bnd ((ky t i - ky t (i - 1)) * (x - kx t (i - 1)) / (kx t i - kx t (i - 1))) 400000000000000 200000000000000 ∧ bnd (lineQ t i x) 60000000000000000 20000000000000000 := by
  obtain ⟨a1, a2⟩ := c.small i (by omega) i1
  obtain ⟨b1, b2⟩ := c.small (i - 1) (by omega) (by omega)
  have h1 := a2.sub b2
  have h2 := hx.sub b1
  have h3 := a1.sub b1
  have h4 := h1.mul h2
  have h5 := h4.div h3 (by omega)
  have h6 := b2.add h5
  exact ⟨h1, h2, h3, h4, h5, h6⟩
theorem mean_bnd {t : List Kn} (c : Corr t) {i : Int} (i0 : 1 ≤ i) (i1 : i < t.length) {x : Rat} (hx : bnd x 10000 10000) :
    bnd (kx t i - x) 2000000 1000000 ∧ bnd (x - kx t (i - 1)) 2000000 1000000 ∧ bnd (kx t i - kx t (i - 1)) 20000 10000 ∧ bnd ((kx t i - x) / (kx t i - kx t (i - 1))) 20000000000 20000000000 ∧ bnd ((x - kx t (i - 1)) / (kx t i - kx t (i - 1))) 20000000000 20000000000 ∧
      bnd ((kx t i - x) / (kx t i - kx t (i - 1)) * ky t (i - 1)) 2000000000000 2000000000000 ∧ bnd ((x - kx t (i - 1)) / (kx t i - kx t (i - 1)) * ky t i) 2000000000000 2000000000000 := by
  obtain ⟨a1, a2⟩ := c.small i (by omega) i1
  obtain ⟨b1, b2⟩ := c.small (i - 1) (by omega) (by omega)
  have h1 := a1.sub hx
  have h2 := hx.sub b1
  have h3 := a1.sub b1
  have h4 := h1.div h3 (by omega)
  have h5 := h2.div h3 (by omega)
  exact ⟨h1, h2, h3, h4, h5, h4.mul b2, h5.mul a2⟩

end Go.Proofs.Ytnokkniofajnhaa
