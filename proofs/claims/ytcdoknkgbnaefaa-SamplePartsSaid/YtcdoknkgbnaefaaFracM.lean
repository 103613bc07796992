import Derived.Test.YtcdoknkgbnaefaaSymC
set_option linter.unusedSimpArgs false
set_option linter.unusedVariables false
namespace Go.Proofs.Ytcdoknkgbnaefaa
set_option linter.unusedVariables false
def fits (q : Rat) : Prop:=-1000000000000000000 ≤ q.num ∧ q.num ≤ 1000000000000000000 ∧ (q.den : Int) ≤ 1000000000000000000
def isF (n d : Int) (q : Rat) : Prop:=n = q.num ∧ d = q.den ∧ fits q
def okF (n d : Int) : Prop:=∃ q,isF n d q
def outF (q : Rat) (n d e : Int) : Prop:=(fits q ∧ n = q.num ∧ d = q.den ∧ e = 0) ∨ (¬ fits q ∧ n = 0 ∧ d = 0 ∧ e = 16)
theorem isF.uniq {n d : Int} {p q : Rat} (h : isF n d p) (k : isF n d q) : p = q:=by
 obtain ⟨h1,h2,_⟩:=h
 obtain ⟨k1,k2,_⟩:=k
 exact Rat.ext (by omega) (by omega)
theorem isF.den {n d : Int} {q : Rat} (h : isF n d q) : 1 ≤ d:=by
 have:=q.den_pos
 have:=h.2.1
 omega
theorem okF_iff (n d : Int) : okF n d ↔ 1 ≤ d ∧ d ≤ 1000000000000000000 ∧ -1000000000000000000 ≤ n ∧ n ≤ 1000000000000000000 ∧ Int.gcd n d = 1:=by
 constructor
 ·rintro ⟨q,rfl,rfl,h1,h2,h3⟩
  have:=q.den_pos
  refine ⟨by omega,h3,h1,h2,?_⟩
  have:=q.reduced
  unfold Nat.Coprime at this
  unfold Int.gcd
  simpa using this
 ·rintro ⟨h1,h2,h3,h4,h5⟩
  refine ⟨⟨n,d.toNat,by omega,?_⟩,rfl,?_,h3,h4,?_⟩
  ·unfold Nat.Coprime
   unfold Int.gcd at h5
   rw [show d.toNat = d.natAbs by omega]
   exact h5
  ·show d = ((d.toNat : Nat) : Int);omega
  ·show ((d.toNat : Nat) : Int) ≤ _;omega
end Go.Proofs.Ytcdoknkgbnaefaa
namespace Go.Proofs.Ytcdoknkgbnaefaa
set_option linter.unusedVariables false
theorem mul_bd {a b : Int} (M N : Int) (a0 : 0 ≤ a) (a1 : a ≤ M) (b0 : 0 ≤ b) (b1 : b ≤ N) : 0 ≤ a * b ∧ a * b ≤ M * N:=
 ⟨Int.mul_nonneg a0 b0,Int.mul_le_mul a1 b1 b0 (by omega)⟩
theorem mul_parts4 (x1 x0 y1 y0 : Int) : (x1 * 4294967296 + x0) * (y1 * 4294967296 + y0) = 18446744073709551616 * (x1 * y1) + 4294967296 * (x1 * y0) + 4294967296 * (x0 * y1) + x0 * y0:=by grind
theorem mul128 {x y : Int} (hx0 : 0 ≤ x) (hx1 : x < 18446744073709551616) (hy0 : 0 ≤ y) (hy1 : y < 18446744073709551616) {a b c d t w : Int}
  (ha : a = x % 4294967296 * (y % 4294967296)) (hb : b = x / 4294967296 * (y % 4294967296)) (hc : c = x % 4294967296 * (y / 4294967296)) (hd : d = x / 4294967296 * (y / 4294967296)) (ht : t = b + a / 4294967296) (hw : w = t % 4294967296 + c) :
  (0 ≤ a ∧ a ≤ 18446744065119617025) ∧ (0 ≤ b ∧ b ≤ 18446744065119617025) ∧ (0 ≤ c ∧ c ≤ 18446744065119617025) ∧ (0 ≤ d ∧ d ≤ 18446744065119617025) ∧ x * y = 18446744073709551616 * d + 4294967296 * b + 4294967296 * c + a ∧ d + t / 4294967296 + w / 4294967296 = x * y / 18446744073709551616:=by
 have m1:=mul_bd 4294967295 4294967295 (a:=x % 4294967296) (b:=y % 4294967296) (by omega) (by omega) (by omega) (by omega)
 have m2:=mul_bd 4294967295 4294967295 (a:=x / 4294967296) (b:=y % 4294967296) (by omega) (by omega) (by omega) (by omega)
 have m3:=mul_bd 4294967295 4294967295 (a:=x % 4294967296) (b:=y / 4294967296) (by omega) (by omega) (by omega) (by omega)
 have m4:=mul_bd 4294967295 4294967295 (a:=x / 4294967296) (b:=y / 4294967296) (by omega) (by omega) (by omega) (by omega)
 have e:=mul_parts4 (x / 4294967296) (x % 4294967296) (y / 4294967296) (y % 4294967296)
 rw [show x / 4294967296 * 4294967296 + x % 4294967296 = x by omega,show y / 4294967296 * 4294967296 + y % 4294967296 = y by omega,← ha,← hb,← hc,← hd] at e
 rw [← ha] at m1
 rw [← hb] at m2
 rw [← hc] at m3
 rw [← hd] at m4
 refine ⟨by omega,by omega,by omega,by omega,e,?_⟩
 rw [e]
 omega
end Go.Proofs.Ytcdoknkgbnaefaa
namespace Go.Proofs.Ytcdoknkgbnaefaa
set_option linter.unusedVariables false
theorem gcd_nat {a b : Int} (ha : 0 ≤ a) (hb : 0 ≤ b) : Int.gcd a b = Nat.gcd a.toNat b.toNat:=by
 unfold Int.gcd
 rw [show a.natAbs = a.toNat by omega,show b.natAbs = b.toNat by omega]
theorem div_nat {a b : Nat} : ((a / b : Nat) : Int) = (a : Int) / (b : Int):=Int.natCast_ediv a b
theorem make_prog {n d : Int} (hd : d ≠ 0) {g : Int} (hg : g = Int.gcd n d) {neg : Bool} (hn : neg = true ↔ ¬ (n < 0 ↔ d < 0)) : ((n : Rat) / (d : Rat)).num = (if neg = true then -((n.natAbs : Int) / g) else (n.natAbs : Int) / g) ∧ ((((n : Rat) / (d : Rat)).den : Nat) : Int) = (d.natAbs : Int) / g ∧ 0 < g ∧ g ≤ d.natAbs:=by
 have hgp : 0 < Int.gcd n d:=Int.gcd_pos_of_ne_zero_right _ hd
 have hgd : Int.gcd n d ∣ d.natAbs:=by unfold Int.gcd;exact Nat.gcd_dvd_right ..
 have hgn : Int.gcd n d ∣ n.natAbs:=by unfold Int.gcd;exact Nat.gcd_dvd_left ..
 have hle : Int.gcd n d ≤ d.natAbs:=Nat.le_of_dvd (by omega) hgd
 subst hg
 rw [← Rat.divInt_eq_div]
 have hc : Int.gcd d n = Int.gcd n d:=Int.gcd_comm ..
 refine ⟨?_,?_,by omega,by omega⟩
 ·rw [Rat.num_divInt,hc]
  have hgn' : ((Int.gcd n d : Nat) : Int) ∣ n:=Int.gcd_dvd_left ..
  obtain ⟨k,hk⟩:=hgn'
  have hG : (0 : Int) < (Int.gcd n d : Int):=by omega
  generalize (Int.gcd n d : Int) = G at *
  have e1 : (n.natAbs : Int) = G * k.natAbs:=by rw [hk,Int.natAbs_mul,Int.natCast_mul,show (G.natAbs : Int) = G by omega]
  have e2 : (n.natAbs : Int) / G = k.natAbs:=by rw [e1,Int.mul_ediv_cancel_left _ (by omega)]
  have e3 : d.sign * n / G = d.sign * k:=by rw [hk,Int.mul_left_comm,Int.mul_ediv_cancel_left _ (by omega)]
  have hs : (n < 0 ↔ k < 0):=by
   rw [hk]
   constructor
   ·intro w
    by_cases c : k < 0
    ·exact c
    ·have:=Int.mul_nonneg (show 0 ≤ G by omega) (show 0 ≤ k by omega)
     omega
   ·intro w
    have:=Int.mul_pos hG (show 0 < -k by omega)
    rw [Int.mul_neg] at this
    omega
  rw [e2,e3]
  rcases Int.lt_trichotomy d 0 with c | c | c
  ·rw [Int.sign_eq_neg_one_of_neg c]
   by_cases w : n < 0
   ·rw [if_neg (fun q => hn.1 q ⟨fun _ => c,fun _ => w⟩)]
    omega
   ·rw [if_pos (hn.2 (fun q => w (q.2 c)))]
    omega
  ·exact absurd c hd
  ·rw [Int.sign_eq_one_of_pos c]
   by_cases w : n < 0
   ·rw [if_pos (hn.2 (fun q => by have:=q.1 w;omega))]
    omega
   ·rw [if_neg (fun q => hn.1 q ⟨fun x => absurd x w,fun x => by omega⟩)]
    omega
 ·rw [Rat.den_divInt,if_neg hd,hc,div_nat]
end Go.Proofs.Ytcdoknkgbnaefaa
namespace Go.Proofs.Ytcdoknkgbnaefaa
set_option linter.unusedVariables false
def bnd (q : Rat) (N D : Nat) : Prop:=q.num.natAbs ≤ N ∧ q.den ≤ D
theorem bnd.fits {q : Rat} {N D : Nat} (h : bnd q N D) (hN : N ≤ 1000000000000000000) (hD : D ≤ 1000000000000000000) : fits q:=by
 obtain ⟨h1,h2⟩:=h
 exact ⟨by omega,by omega,by omega⟩
theorem natAbs_div_le (a : Int) (n : Nat) : (a / (n : Int)).natAbs ≤ a.natAbs:=Int.natAbs_ediv_le_natAbs _ _
theorem bnd.mul {p q : Rat} {N D M E : Nat} (h : bnd p N D) (k : bnd q M E) : bnd (p * q) (N * M) (D * E):=by
 obtain ⟨h1,h2⟩:=h
 obtain ⟨k1,k2⟩:=k
 constructor
 ·rw [Rat.num_mul]
  refine Nat.le_trans (natAbs_div_le _ _) ?_
  rw [Int.natAbs_mul]
  exact Nat.mul_le_mul h1 k1
 ·rw [Rat.den_mul]
  exact Nat.le_trans (Nat.div_le_self _ _) (Nat.mul_le_mul h2 k2)
theorem bnd.inv {p : Rat} {N D : Nat} (h : bnd p N D) (hN : 1 ≤ N) : bnd p⁻¹ D N:=by
 obtain ⟨h1,h2⟩:=h
 constructor
 ·rw [Rat.num_inv,Int.natAbs_mul]
  have : p.num.sign.natAbs ≤ 1:=by
   rcases Int.lt_trichotomy p.num 0 with c | c | c
   ·rw [Int.sign_eq_neg_one_of_neg c];decide
   ·rw [c];decide
   ·rw [Int.sign_eq_one_of_pos c];decide
  have:=Nat.mul_le_mul this (Nat.le_refl (p.den : Int).natAbs)
  simp at this ⊢
  omega
 ·rw [Rat.den_inv]
  split <;> omega
theorem bnd.div {p q : Rat} {N D M E : Nat} (h : bnd p N D) (k : bnd q M E) (hM : 1 ≤ M) : bnd (p / q) (N * E) (D * M):=by
 rw [Rat.div_def];exact h.mul (k.inv hM)
def cmpF (p q : Rat) : Int:=if p < q then -1 else if p = q then 0 else 1
theorem cmpF_lt {p q : Rat} : cmpF p q < 0 ↔ p < q:=by
 unfold cmpF
 split
 ·rename_i h;exact ⟨fun _ => h,fun _ => by omega⟩
 ·rename_i h;split <;> exact ⟨fun w => by omega,fun w => absurd w h⟩
theorem cmpF_of {p q : Rat} {c : Int} (hc : c = if p.num * q.den < q.num * p.den then -1 else if p.num * q.den = q.num * p.den then 0 else 1) : c = cmpF p q:=by
 rw [hc]
 unfold cmpF
 have e1:=Rat.lt_iff p q
 have e2 : p = q ↔ p.num * q.den = q.num * p.den:=Rat.eq_iff_mul_eq_mul
 by_cases h : p < q
 ·rw [if_pos h,if_pos (e1.1 h)]
 ·rw [if_neg h,if_neg (fun w => h (e1.2 w))]
  by_cases k : p = q
  ·rw [if_pos k,if_pos (e2.1 k)]
  ·rw [if_neg k,if_neg (fun w => k (e2.2 w))]
end Go.Proofs.Ytcdoknkgbnaefaa
