import Derived.Test.YtkbgkjlgnmlghaaGreatFracM
set_option linter.unusedSimpArgs false
set_option linter.unusedVariables false
namespace Go.Proofs.YtkbgkjlgnmlghaaGreat
set_option linter.unusedVariables false
structure Cq where
 re : Rat
 im : Rat
theorem Cq.ext {z w : Cq} (h : z.re = w.re) (k : z.im = w.im) : z = w:=by cases z;cases w;simp only at h k;rw [h,k]
def Cq.add (z w : Cq) : Cq:=⟨z.re + w.re,z.im + w.im⟩
def Cq.sub (z w : Cq) : Cq:=⟨z.re - w.re,z.im - w.im⟩
def Cq.mul (z w : Cq) : Cq:=⟨z.re * w.re - z.im * w.im,z.re * w.im + z.im * w.re⟩
def Cq.conj (z : Cq) : Cq:=⟨z.re,-z.im⟩
def Cq.zero : Cq:=⟨0,0⟩
def Cq.real (q : Rat) : Cq:=⟨q,0⟩
structure isC (a b d : Int) (z : Cq) : Prop where
 d1 : 1 ≤ d
 d2 : d ≤ 1000000000
 a1 : -1000000000 ≤ a
 a2 : a ≤ 1000000000
 b1 : -1000000000 ≤ b
 b2 : b ≤ 1000000000
 g : Int.gcd (Int.gcd a b) d = 1
 re : (a : Rat) = z.re * (d : Rat)
 im : (b : Rat) = z.im * (d : Rat)
def okC (a b d : Int) : Prop:=∃ z,isC a b d z
def outC (z : Cq) (a b d e : Int) : Prop:=(isC a b d z ∧ e = 0) ∨ ((∀ a b d,¬ isC a b d z) ∧ a = 0 ∧ b = 0 ∧ d = 0 ∧ e = 16)
theorem cancelQ {x y z : Rat} (hz : z ≠ 0) (h : x * z = y * z) : x = y:=by
 have : x * z * z⁻¹ = y * z * z⁻¹:=by rw [h]
 rwa [Rat.mul_assoc,Rat.mul_assoc,Rat.mul_inv_cancel _ hz,Rat.mul_one,Rat.mul_one] at this
theorem ratne {d : Int} (h : d ≠ 0) : (d : Rat) ≠ 0:=fun w => h (Rat.intCast_inj.1 (by rw [w];rfl))
theorem isC.of {a b d : Int} {z w : Cq} (h : isC a b d z) (k : isC a b d w) : z = w:=by
 have hd : (d : Rat) ≠ 0:=ratne (by have:=h.d1;omega)
 exact Cq.ext (cancelQ hd (by rw [← h.re,← k.re])) (cancelQ hd (by rw [← h.im,← k.im]))
theorem cross {x : Rat} {a d a' d' : Int} (h : (a : Rat) = x * d) (k : (a' : Rat) = x * d') : a * d' = a' * d:=by
 have : (a : Rat) * (d' : Rat) = (a' : Rat) * (d : Rat):=by rw [h,k];grind
 have:=(Rat.intCast_mul a d').trans (this.trans (Rat.intCast_mul a' d).symm)
 exact Rat.intCast_inj.1 this
theorem den_dvd {a b d a' b' d' : Int} (h1 : a * d' = a' * d) (h2 : b * d' = b' * d) (g : Int.gcd (Int.gcd a b) d = 1) : d.natAbs ∣ d'.natAbs:=by
 have e1 : a.natAbs * d'.natAbs = a'.natAbs * d.natAbs:=by rw [← Int.natAbs_mul,h1,Int.natAbs_mul]
 have e2 : b.natAbs * d'.natAbs = b'.natAbs * d.natAbs:=by rw [← Int.natAbs_mul,h2,Int.natAbs_mul]
 have q1 : d.natAbs ∣ a.natAbs * d'.natAbs:=by rw [e1];exact Nat.dvd_mul_left _ _
 have q2 : d.natAbs ∣ b.natAbs * d'.natAbs:=by rw [e2];exact Nat.dvd_mul_left _ _
 have q3 : d.natAbs ∣ d.natAbs * d'.natAbs:=Nat.dvd_mul_right _ _
 have q4:=Nat.dvd_gcd (Nat.dvd_gcd q1 q2) q3
 rw [Nat.gcd_mul_right,Nat.gcd_mul_right] at q4
 have g' : Nat.gcd (Nat.gcd a.natAbs b.natAbs) d.natAbs = 1:=g
 rwa [g',Nat.one_mul] at q4
theorem isC.trip {a b d a' b' d' : Int} {z : Cq} (h : isC a b d z) (k : isC a' b' d' z) : a = a' ∧ b = b' ∧ d = d':=by
 have c1:=cross h.re k.re
 have c2:=cross h.im k.im
 have p:=Nat.dvd_antisymm (den_dvd c1 c2 h.g) (den_dvd c1.symm c2.symm k.g)
 have hd : d = d':=by have:=h.d1;have:=k.d1;omega
 subst hd
 have h1:=h.d1
 exact ⟨Int.eq_of_mul_eq_mul_right (by omega) c1,Int.eq_of_mul_eq_mul_right (by omega) c2,rfl⟩
theorem okC_iff (a b d : Int) : okC a b d ↔ 1 ≤ d ∧ d ≤ 1000000000 ∧ -1000000000 ≤ a ∧ a ≤ 1000000000 ∧ -1000000000 ≤ b ∧ b ≤ 1000000000 ∧ Int.gcd (Int.gcd a b) d = 1:=by
 constructor
 ·rintro ⟨z,h⟩;exact ⟨h.d1,h.d2,h.a1,h.a2,h.b1,h.b2,h.g⟩
 ·rintro ⟨h1,h2,h3,h4,h5,h6,h7⟩
  have hd : (d : Rat) ≠ 0:=ratne (by omega)
  refine ⟨⟨a / d,b / d⟩,h1,h2,h3,h4,h5,h6,h7,?_,?_⟩
  ·show (a : Rat) = (a : Rat) / (d : Rat) * (d : Rat)
   rw [Rat.div_def,Rat.mul_assoc,Rat.inv_mul_cancel _ hd,Rat.mul_one]
  ·show (b : Rat) = (b : Rat) / (d : Rat) * (d : Rat)
   rw [Rat.div_def,Rat.mul_assoc,Rat.inv_mul_cancel _ hd,Rat.mul_one]
theorem red_ok {n m d g s : Int} (hd : d ≠ 0) (hg : g = Int.gcd (Int.gcd n m) d) (hs : s = if d < 0 then -g else g) {z : Cq} (h1 : (n : Rat) = z.re * d) (h2 : (m : Rat) = z.im * d) :
  s ≠ 0 ∧ s.natAbs ≤ d.natAbs ∧ n.tdiv s * s = n ∧ m.tdiv s * s = m ∧ d.tdiv s * s = d ∧ 1 ≤ d.tdiv s ∧ Int.gcd (Int.gcd (n.tdiv s) (m.tdiv s)) (d.tdiv s) = 1 ∧ ((n.tdiv s : Int) : Rat) = z.re * ((d.tdiv s : Int) : Rat) ∧ ((m.tdiv s : Int) : Rat) = z.im * ((d.tdiv s : Int) : Rat):=by
 have g1 : 0 < g:=by
  rw [hg]
  have:=Nat.gcd_pos_of_pos_right (Int.gcd n m) (n:=d.natAbs) (by omega)
  have e : Int.gcd (Int.gcd n m) d = Nat.gcd (Int.gcd n m) d.natAbs:=rfl
  omega
 have sg : s.natAbs = g.toNat:=by rw [hs];split <;> omega
 have s0 : s ≠ 0:=by omega
 have gn : g.toNat = Nat.gcd (Nat.gcd n.natAbs m.natAbs) d.natAbs:=by rw [hg];rfl
 have dn : s ∣ n:=Int.natAbs_dvd_natAbs.1 (by rw [sg,gn];exact Nat.dvd_trans (Nat.gcd_dvd_left _ _) (Nat.gcd_dvd_left _ _))
 have dm : s ∣ m:=Int.natAbs_dvd_natAbs.1 (by rw [sg,gn];exact Nat.dvd_trans (Nat.gcd_dvd_left _ _) (Nat.gcd_dvd_right _ _))
 have dd : s ∣ d:=Int.natAbs_dvd_natAbs.1 (by rw [sg,gn];exact Nat.gcd_dvd_right _ _)
 have en:=Int.tdiv_mul_cancel dn
 have em:=Int.tdiv_mul_cancel dm
 have ed:=Int.tdiv_mul_cancel dd
 have pos : 1 ≤ d.tdiv s:=by
  rw [hs] at ed ⊢
  by_cases c : d < 0
  ·rw [if_pos c] at ed ⊢
   rcases (by omega : d.tdiv (-g) < 1 ∨ 1 ≤ d.tdiv (-g)) with q | q
   ·exfalso
    have : 0 ≤ -(d.tdiv (-g)) * g:=Int.mul_nonneg (by omega) (by omega)
    have e : -(d.tdiv (-g)) * g = d.tdiv (-g) * -g:=by rw [Int.neg_mul,Int.mul_neg]
    omega
   ·exact q
  ·rw [if_neg c] at ed ⊢
   rcases (by omega : d.tdiv g < 1 ∨ 1 ≤ d.tdiv g) with q | q
   ·exfalso
    have : 0 ≤ -(d.tdiv g) * g:=Int.mul_nonneg (by omega) (by omega)
    have e : -(d.tdiv g) * g = -(d.tdiv g * g):=Int.neg_mul _ _
    omega
   ·exact q
 have sr : (s : Rat) ≠ 0:=ratne s0
 refine ⟨s0,?_,en,em,ed,pos,?_,?_,?_⟩
 ·rw [sg,gn];exact Nat.le_of_dvd (by omega) (Nat.gcd_dvd_right _ _)
 ·have a1 : n.natAbs = (n.tdiv s).natAbs * g.toNat:=by rw [← sg,← Int.natAbs_mul,en]
  have a2 : m.natAbs = (m.tdiv s).natAbs * g.toNat:=by rw [← sg,← Int.natAbs_mul,em]
  have a3 : d.natAbs = (d.tdiv s).natAbs * g.toNat:=by rw [← sg,← Int.natAbs_mul,ed]
  rw [a1,a2,a3,Nat.gcd_mul_right,Nat.gcd_mul_right] at gn
  have h0 : 0 < g.toNat:=by omega
  have : Nat.gcd (Nat.gcd (n.tdiv s).natAbs (m.tdiv s).natAbs) (d.tdiv s).natAbs = 1:=Nat.eq_of_mul_eq_mul_right h0 (by omega)
  exact this
 ·refine cancelQ sr ?_
  rw [← Rat.intCast_mul,en,h1,← ed,Rat.intCast_mul,ed,Rat.mul_assoc]
 ·refine cancelQ sr ?_
  rw [← Rat.intCast_mul,em,h2,← ed,Rat.intCast_mul,ed,Rat.mul_assoc]
def OpC (f : Cq → Cq → Cq) (a b d a' b' d' r s t e : Int) : Prop:=(¬ (okC a b d ∧ okC a' b' d') ∧ r = 0 ∧ s = 0 ∧ t = 0 ∧ e = 8) ∨ ∃ z w,isC a b d z ∧ isC a' b' d' w ∧ outC (f z w) r s t e
theorem OpC.is {f : Cq → Cq → Cq} {a b d a' b' d' r s t e : Int} {z w : Cq} (h : OpC f a b d a' b' d' r s t e) (hz : isC a b d z) (hw : isC a' b' d' w) : outC (f z w) r s t e:=by
 rcases h with ⟨h,_⟩ | ⟨z',w',kz,kw,k⟩
 ·exact absurd ⟨⟨_,hz⟩,⟨_,hw⟩⟩ h
 ·obtain rfl:=hz.of kz
  obtain rfl:=hw.of kw
  exact k
end Go.Proofs.YtkbgkjlgnmlghaaGreat
