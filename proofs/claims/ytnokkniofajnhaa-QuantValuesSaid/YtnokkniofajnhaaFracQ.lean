/-
  FRACTIONS, AS SUCH: what the steps of sums and products give.
-/
import Derived.Test.YtnokkniofajnhaaFracN
namespace Go.Proofs.Ytnokkniofajnhaa
set_option linter.unusedVariables false

theorem gcd_nat {a b : Int} (ha : 0 ≤ a) (hb : 0 ≤ b) : Int.gcd a b = Nat.gcd a.toNat b.toNat := by
  unfold Int.gcd
  rw [show a.natAbs = a.toNat by omega, show b.natAbs = b.toNat by omega]
theorem div_nat {a b : Nat} : ((a / b : Nat) : Int) = (a : Int) / (b : Int) := Int.natCast_ediv a b

/-- What is left of numerators and denominators. -/
theorem add_prog {an ad bn bd : Int} {p q : Rat} (hp : isF an ad p) (hq : isF bn bd q) {d : Int} (hd : d = Int.gcd ad bd) {A B T : Int} (hA : A = an.natAbs * (bd / d)) (hB : B = bn.natAbs * (ad / d)) {neg : Bool}
    (hT : ((an < 0 ↔ bn < 0) ∧ T = A + B ∧ (neg = true ↔ an < 0)) ∨ (¬ (an < 0 ↔ bn < 0) ∧ B ≤ A ∧ T = A - B ∧ (neg = true ↔ an < 0)) ∨ (¬ (an < 0 ↔ bn < 0) ∧ A < B ∧ T = B - A ∧ (neg = true ↔ bn < 0)))
    {g : Int} (hg : g = Int.gcd d (T % d)) : (p + q).num = (if neg = true then -(T / g) else T / g) ∧ ((p + q).den : Int) = ad / d * (bd / g) ∧ 0 < g ∧ g ≤ d ∧ 0 ≤ T ∧ 0 < d ∧ d ≤ ad := by
  obtain ⟨rfl, rfl, _⟩ := hp
  obtain ⟨rfl, rfl, _⟩ := hq
  have pd := p.den_pos
  have qd := q.den_pos
  obtain ⟨D, hD⟩ : ∃ D : Nat, D = Nat.gcd p.den q.den := ⟨_, rfl⟩
  have hdD : d = D := by rw [hd, hD]; rfl
  have hDp : 0 < D := by rw [hD]; exact Nat.gcd_pos_of_pos_left _ pd
  have hDle : D ≤ p.den := by rw [hD]; exact Nat.gcd_le_left _ pd
  subst hdD
  rw [← div_nat] at hA hB
  obtain ⟨S, hS⟩ : ∃ S : Int, S = p.num * (q.den / D : Nat) + q.num * (p.den / D : Nat) := ⟨_, rfl⟩
  obtain ⟨G, hG⟩ : ∃ G : Nat, G = Nat.gcd D S.natAbs := ⟨_, rfl⟩
  have key := add_parts p q hD hS hG
  have u0 : (0 : Int) ≤ (q.den / D : Nat) := Int.natCast_nonneg _
  have v0 : (0 : Int) ≤ (p.den / D : Nat) := Int.natCast_nonneg _
  have hAn : 0 ≤ A := by rw [hA]; exact Int.mul_nonneg (Int.natCast_nonneg _) u0
  have hBn : 0 ≤ B := by rw [hB]; exact Int.mul_nonneg (Int.natCast_nonneg _) v0
  have e1 : p.num * (q.den / D : Nat) = if p.num < 0 then -A else A := by
    rw [hA]
    split
    · rw [show (p.num.natAbs : Int) = -p.num by omega, Int.neg_mul]; omega
    · rw [show (p.num.natAbs : Int) = p.num by omega]
  have e2 : q.num * (p.den / D : Nat) = if q.num < 0 then -B else B := by
    rw [hB]
    split
    · rw [show (q.num.natAbs : Int) = -q.num by omega, Int.neg_mul]; omega
    · rw [show (q.num.natAbs : Int) = q.num by omega]
  rw [e1, e2] at hS
  have hT0 : 0 ≤ T := by
    rcases hT with ⟨_, h, _⟩ | ⟨_, _, h, _⟩ | ⟨_, _, h, _⟩ <;> omega
  have hST : S = if neg = true then -T else T := by
    rcases hT with ⟨h, h2, h3⟩ | ⟨h, h1, h2, h3⟩ | ⟨h, h1, h2, h3⟩
    · by_cases c : p.num < 0
      · rw [if_pos c, if_pos (h.1 c)] at hS
        rw [if_pos (h3.2 c)]; omega
      · rw [if_neg c, if_neg (fun w => c (h.2 w))] at hS
        rw [if_neg (fun w => c (h3.1 w))]; omega
    · by_cases c : p.num < 0
      · have c2 : ¬ q.num < 0 := fun w => h ⟨fun _ => w, fun _ => c⟩
        rw [if_pos c, if_neg c2] at hS
        rw [if_pos (h3.2 c)]; omega
      · have c2 : q.num < 0 := by
          by_cases w : q.num < 0
          · exact w
          · exact absurd ⟨fun x => absurd x c, fun x => absurd x w⟩ h
        rw [if_neg c, if_pos c2] at hS
        rw [if_neg (fun w => c (h3.1 w))]; omega
    · by_cases c : p.num < 0
      · have c2 : ¬ q.num < 0 := fun w => h ⟨fun _ => w, fun _ => c⟩
        rw [if_pos c, if_neg c2] at hS
        rw [if_neg (fun w => c2 (h3.1 w))]; omega
      · have c2 : q.num < 0 := by
          by_cases w : q.num < 0
          · exact w
          · exact absurd ⟨fun x => absurd x c, fun x => absurd x w⟩ h
        rw [if_neg c, if_pos c2] at hS
        rw [if_pos (h3.2 c2)]; omega
  have hSa : S.natAbs = T.toNat := by rw [hST]; split <;> omega
  have hgG : g = G := by
    rw [hg, hG, hSa]
    have m0 : 0 ≤ T % (D : Int) := Int.emod_nonneg _ (by omega)
    rw [gcd_nat (by omega) m0]
    have e3 : (T % (D : Int)).toNat = T.toNat % D := by
      have : ((T.toNat % D : Nat) : Int) = T % (D : Int) := by
        rw [Int.natCast_emod, Int.toNat_of_nonneg hT0]
      omega
    rw [e3, Int.toNat_natCast, Nat.gcd_comm, ← Nat.gcd_rec]
  have hGp : 0 < G := by rw [hG]; exact Nat.gcd_pos_of_pos_left _ hDp
  have hGle : G ≤ D := by rw [hG]; exact Nat.gcd_le_left _ hDp
  have hGd : (G : Int) ∣ T := by
    have : G ∣ T.toNat := by rw [← hSa, hG]; exact Nat.gcd_dvd_right ..
    have := Int.natCast_dvd_natCast.2 this
    rwa [Int.toNat_of_nonneg hT0] at this
  subst hgG
  refine ⟨?_, ?_, by omega, by omega, hT0, by omega, by omega⟩
  · rw [key.1, hST]
    split
    · rw [Int.neg_ediv_of_dvd hGd]
    · rfl
  · rw [key.2, Int.natCast_mul, div_nat, div_nat]

theorem mul_prog {an ad bn bd : Int} {p q : Rat} (hp : isF an ad p) (hq : isF bn bd q) {g h : Int} (hg : g = Int.gcd an.natAbs bd) (hh : h = Int.gcd bn.natAbs ad) {neg : Bool} (hn : neg = true ↔ ¬ (an < 0 ↔ bn < 0)) :
    (p * q).num = (if neg = true then -(an.natAbs / g * (bn.natAbs / h)) else an.natAbs / g * (bn.natAbs / h)) ∧ ((p * q).den : Int) = ad / h * (bd / g) ∧ 0 < g ∧ g ≤ bd ∧ 0 < h ∧ h ≤ ad := by
  obtain ⟨rfl, rfl, _⟩ := hp
  obtain ⟨rfl, rfl, _⟩ := hq
  have pd := p.den_pos
  have qd := q.den_pos
  have hg' : g = (Nat.gcd p.num.natAbs q.den : Nat) := hg
  have hh' : h = (Nat.gcd q.num.natAbs p.den : Nat) := hh
  have g0 : 0 < Nat.gcd p.num.natAbs q.den := Nat.gcd_pos_of_pos_right _ qd
  have h0 : 0 < Nat.gcd q.num.natAbs p.den := Nat.gcd_pos_of_pos_right _ pd
  have g1 : Nat.gcd p.num.natAbs q.den ≤ q.den := Nat.gcd_le_right _ qd
  have h1 : Nat.gcd q.num.natAbs p.den ≤ p.den := Nat.gcd_le_right _ pd
  obtain ⟨k1, k2⟩ := mul_parts p q
  have ks := mul_sign p q
  rw [hg', hh', ← div_nat, ← div_nat, ← div_nat, ← div_nat, ← Int.natCast_mul, ← Int.natCast_mul, ← k1, ← k2]
  refine ⟨?_, rfl, by omega, by omega, by omega, by omega⟩
  by_cases z : (p * q).num = 0
  · rw [z]; simp
  have zp : p.num ≠ 0 := fun w => z (by
    have : p = 0 := Rat.num_eq_zero.1 w
    rw [this, Rat.zero_mul]; rfl)
  have zq : q.num ≠ 0 := fun w => z (by
    have : q = 0 := Rat.num_eq_zero.1 w
    rw [this, Rat.mul_zero]; rfl)
  by_cases c : neg = true
  · rw [if_pos c]
    have := hn.1 c
    have : (p * q).num < 0 := ks.2 (by omega)
    omega
  · rw [if_neg c]
    have h2 : (p.num < 0 ↔ q.num < 0) := Classical.byContradiction fun w => c (hn.2 w)
    have : ¬ (p * q).num < 0 := fun w => by have := ks.1 w; omega
    omega

/-- The fraction of two numbers. -/
theorem make_prog {n d : Int} (hd : d ≠ 0) {g : Int} (hg : g = Int.gcd n d) {neg : Bool} (hn : neg = true ↔ ¬ (n < 0 ↔ d < 0)) : ((n : Rat) / (d : Rat)).num = (if neg = true then -((n.natAbs : Int) / g) else (n.natAbs : Int) / g) ∧ ((((n : Rat) / (d : Rat)).den : Nat) : Int) = (d.natAbs : Int) / g ∧ 0 < g ∧ g ≤ d.natAbs := by
  have hgp : 0 < Int.gcd n d := Int.gcd_pos_of_ne_zero_right _ hd
  have hgd : Int.gcd n d ∣ d.natAbs := by unfold Int.gcd; exact Nat.gcd_dvd_right ..
  have hgn : Int.gcd n d ∣ n.natAbs := by unfold Int.gcd; exact Nat.gcd_dvd_left ..
  have hle : Int.gcd n d ≤ d.natAbs := Nat.le_of_dvd (by omega) hgd
  subst hg
  rw [← Rat.divInt_eq_div]
  have hc : Int.gcd d n = Int.gcd n d := Int.gcd_comm ..
  refine ⟨?_, ?_, by omega, by omega⟩
  · rw [Rat.num_divInt, hc]
    have hgn' : ((Int.gcd n d : Nat) : Int) ∣ n := Int.gcd_dvd_left ..
    obtain ⟨k, hk⟩ := hgn'
    have hG : (0 : Int) < (Int.gcd n d : Int) := by omega
    generalize (Int.gcd n d : Int) = G at *
    have e1 : (n.natAbs : Int) = G * k.natAbs := by rw [hk, Int.natAbs_mul, Int.natCast_mul, show (G.natAbs : Int) = G by omega]
    have e2 : (n.natAbs : Int) / G = k.natAbs := by rw [e1, Int.mul_ediv_cancel_left _ (by omega)]
    have e3 : d.sign * n / G = d.sign * k := by rw [hk, Int.mul_left_comm, Int.mul_ediv_cancel_left _ (by omega)]
    have hs : (n < 0 ↔ k < 0) := by
      rw [hk]
      constructor
      · intro w
        by_cases c : k < 0
        · exact c
        · have := Int.mul_nonneg (show 0 ≤ G by omega) (show 0 ≤ k by omega)
          omega
      · intro w
        have := Int.mul_pos hG (show 0 < -k by omega)
        rw [Int.mul_neg] at this
        omega
    rw [e2, e3]
    rcases Int.lt_trichotomy d 0 with c | c | c
    · rw [Int.sign_eq_neg_one_of_neg c]
      by_cases w : n < 0
      · rw [if_neg (fun q => hn.1 q ⟨fun _ => c, fun _ => w⟩)]
        omega
      · rw [if_pos (hn.2 (fun q => w (q.2 c)))]
        omega
    · exact absurd c hd
    · rw [Int.sign_eq_one_of_pos c]
      by_cases w : n < 0
      · rw [if_pos (hn.2 (fun q => by have := q.1 w; omega))]
        omega
      · rw [if_neg (fun q => hn.1 q ⟨fun x => absurd x w, fun x => by omega⟩)]
        omega
  · rw [Rat.den_divInt, if_neg hd, hc, div_nat]

end Go.Proofs.Ytnokkniofajnhaa
