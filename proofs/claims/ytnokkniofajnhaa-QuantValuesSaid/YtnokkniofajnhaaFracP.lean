/-
  FRACTIONS, AS SUCH: a pair of numbers that is valid is a rational number whose numbers are at most 10^18.
-/
import Derived.Test.YtnokkniofajnhaaSymC
namespace Go.Proofs.Ytnokkniofajnhaa
set_option linter.unusedVariables false

/-- A rational number whose numbers are at most 10^18. -/
def fits (q : Rat) : Prop := -1000000000000000000 ≤ q.num ∧ q.num ≤ 1000000000000000000 ∧ (q.den : Int) ≤ 1000000000000000000
/-- A pair of numbers is this one. -/
def isF (n d : Int) (q : Rat) : Prop := n = q.num ∧ d = q.den ∧ fits q
def okF (n d : Int) : Prop := ∃ q, isF n d q
/-- What an operation gives whose result is this one. -/
def outF (q : Rat) (n d e : Int) : Prop := (fits q ∧ n = q.num ∧ d = q.den ∧ e = 0) ∨ (¬ fits q ∧ n = 0 ∧ d = 0 ∧ e = 16)

theorem isF.uniq {n d : Int} {p q : Rat} (h : isF n d p) (k : isF n d q) : p = q := by
  obtain ⟨h1, h2, _⟩ := h
  obtain ⟨k1, k2, _⟩ := k
  exact Rat.ext (by omega) (by omega)
theorem outF.uniq {q : Rat} {n d e n' d' e' : Int} (h : outF q n d e) (k : outF q n' d' e') : n = n' ∧ d = d' ∧ e = e' := by
  rcases h with ⟨a, rfl, rfl, rfl⟩ | ⟨a, rfl, rfl, rfl⟩ <;> rcases k with ⟨b, rfl, rfl, rfl⟩ | ⟨b, rfl, rfl, rfl⟩
  · exact ⟨rfl, rfl, rfl⟩
  · exact absurd a b
  · exact absurd b a
  · exact ⟨rfl, rfl, rfl⟩
theorem isF.den {n d : Int} {q : Rat} (h : isF n d q) : 1 ≤ d := by
  have := q.den_pos
  have := h.2.1
  omega

theorem okF_iff (n d : Int) : okF n d ↔ 1 ≤ d ∧ d ≤ 1000000000000000000 ∧ -1000000000000000000 ≤ n ∧ n ≤ 1000000000000000000 ∧ Int.gcd n d = 1 := by
  constructor
  · rintro ⟨q, rfl, rfl, h1, h2, h3⟩
    have := q.den_pos
    refine ⟨by omega, h3, h1, h2, ?_⟩
    have := q.reduced
    unfold Nat.Coprime at this
    unfold Int.gcd
    simpa using this
  · rintro ⟨h1, h2, h3, h4, h5⟩
    refine ⟨⟨n, d.toNat, by omega, ?_⟩, rfl, ?_, h3, h4, ?_⟩
    · unfold Nat.Coprime
      unfold Int.gcd at h5
      rw [show d.toNat = d.natAbs by omega]
      exact h5
    · show d = ((d.toNat : Nat) : Int); omega
    · show ((d.toNat : Nat) : Int) ≤ _; omega

/-- A number of which the numbers are known. -/
theorem rat_of {q : Rat} {N D : Nat} (hD : D ≠ 0) (hc : Nat.gcd N D = 1) {s : Int} (hs : s = 1 ∨ s = -1) (hq : q = mkRat (s * N) D) : q.num = s * N ∧ q.den = D := by
  have e : mkRat (s * N) D = ⟨s * N, D, hD, by
    unfold Nat.Coprime
    rcases hs with rfl | rfl
    · simpa using hc
    · simpa using hc⟩ := (Rat.mk_eq_mkRat ..).symm
  rw [hq, e]
  exact ⟨rfl, rfl⟩

theorem mul_parts (p q : Rat) : (p * q).num.natAbs = p.num.natAbs / Nat.gcd p.num.natAbs q.den * (q.num.natAbs / Nat.gcd q.num.natAbs p.den) ∧ (p * q).den = p.den / Nat.gcd q.num.natAbs p.den * (q.den / Nat.gcd p.num.natAbs q.den) := by
  have e : p * q = Rat.mul p q := rfl
  constructor
  · rw [e]
    delta Rat.mul
    simp only [Int.divExact_eq_tdiv, Int.natAbs_mul, Int.natAbs_tdiv]
    rfl
  · rw [e]
    delta Rat.mul
    simp
theorem num_neg (q : Rat) : q.num < 0 ↔ q < 0 := by
  rw [← Int.not_le, Rat.num_nonneg, Rat.not_le]
theorem num_pos (q : Rat) : 0 < q.num ↔ 0 < q := by
  have h := Rat.num_nonneg (q := q)
  have k := Rat.num_eq_zero (q := q)
  constructor
  · intro w
    have h1 : ¬ q = 0 := fun w2 => by rw [← k] at w2; omega
    have := h.1 (by omega)
    grind
  · intro w
    have h1 : ¬ q.num = 0 := fun w2 => by rw [k] at w2; grind
    have : 0 ≤ q.num := h.2 (by grind)
    omega
theorem mul_sign (p q : Rat) : (p * q).num < 0 ↔ (p.num < 0 ∧ 0 < q.num) ∨ (0 < p.num ∧ q.num < 0) := by
  rw [num_neg, num_neg, num_neg, num_pos, num_pos]
  rcases (show p < 0 ∨ p = 0 ∨ 0 < p by grind) with a | a | a
  · have h1 : p * q = (-p) * (-q) := by grind
    rw [h1, Rat.mul_neg_iff_of_pos_left (by grind)]
    grind
  · subst a; simp
  · rw [Rat.mul_neg_iff_of_pos_left a]
    grind

theorem add_parts (p q : Rat) {d : Nat} (hd : d = Nat.gcd p.den q.den) {T : Int} (hT : T = p.num * (q.den / d : Nat) + q.num * (p.den / d : Nat)) {g : Nat} (hg : g = Nat.gcd d T.natAbs) :
    (p + q).num = T / g ∧ (p + q).den = p.den / d * (q.den / g) := by
  have hdp : 0 < d := by rw [hd]; exact Nat.gcd_pos_of_pos_left _ p.den_pos
  have hd1 : d ∣ p.den := by rw [hd]; exact Nat.gcd_dvd_left ..
  have hd2 : d ∣ q.den := by rw [hd]; exact Nat.gcd_dvd_right ..
  have hz : p.den / d * q.den ≠ 0 := Nat.ne_of_gt (Nat.mul_pos (Nat.div_pos (Nat.le_of_dvd p.den_pos hd1) hdp) q.den_pos)
  have e : p + q = Rat.normalize T (p.den / d * q.den) hz := by
    rw [Rat.add_def, Rat.normalize_eq_iff]
    have e1 : ((p.den / d : Nat) : Int) * d = p.den := by rw [← Int.natCast_mul, Nat.div_mul_cancel hd1]
    have e2 : ((q.den / d : Nat) : Int) * d = q.den := by rw [← Int.natCast_mul, Nat.div_mul_cancel hd2]
    rw [hT]
    simp only [Int.natCast_mul]
    generalize ((p.den / d : Nat) : Int) = u at *
    generalize ((q.den / d : Nat) : Int) = v at *
    rw [← e1, ← e2]
    grind
  have ha := Rat.add.aux p q hd rfl rfl
  simp only [] at ha
  rw [← hT] at ha
  have hg' : T.natAbs.gcd (p.den / d * q.den) = g := by rw [← ha, hg, Nat.gcd_comm]
  rw [e, Rat.num_normalize, Rat.den_normalize, hg']
  refine ⟨rfl, ?_⟩
  have hgd : g ∣ q.den := Nat.dvd_trans (by rw [hg]; exact Nat.gcd_dvd_left ..) hd2
  rw [Nat.mul_div_assoc _ hgd]

/-- A fraction as one of a valid pair. -/
theorem isF.val {n d : Int} {q : Rat} (h : isF n d q) : q = (n : Rat) / (d : Rat) := by
  obtain ⟨rfl, rfl, _⟩ := h
  have := Rat.num_divInt_den q
  rw [Rat.divInt_eq_div] at this
  exact this.symm

end Go.Proofs.Ytnokkniofajnhaa
