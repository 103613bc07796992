import Derived.Test.YtnokkniofajnhaaFracM
set_option linter.unusedSimpArgs false
set_option linter.unusedVariables false
namespace Go.Proofs.Ytnokkniofajnhaa
abbrev Kn:=Rat × Rat
def kx (t : List Kn) (i : Int) : Rat:=(t.getD i.toNat (0,0)).1
def ky (t : List Kn) (i : Int) : Rat:=(t.getD i.toNat (0,0)).2
structure Corr (t : List Kn) : Prop where
 two : 2 ≤ t.length
 most : t.length ≤ 40
 small : ∀ i : Int,0 ≤ i → i < t.length → bnd (kx t i) 100 100 ∧ bnd (ky t i) 100 100
 incr : ∀ i : Int,0 < i → i < t.length → kx t (i - 1) < kx t i ∧ ky t (i - 1) < ky t i
theorem Corr.lt {t : List Kn} (c : Corr t) : ∀ (k : Nat) (i : Int),0 ≤ i → i + k + 1 < t.length → kx t i < kx t (i + k + 1) ∧ ky t i < ky t (i + k + 1):=by
 intro k
 induction k with
 | zero =>
  intro i i0 i1
  have:=c.incr (i + 1) (by omega) (by omega)
  rw [show i + 1 - 1 = i by omega] at this
  rw [show i + ((0 : Nat) : Int) + 1 = i + 1 by omega]
  exact this
 | succ k ih =>
  intro i i0 i1
  have h1:=ih i i0 (by omega)
  have h2:=c.incr (i + k + 1 + 1) (by omega) (by omega)
  rw [show i + (k : Int) + 1 + 1 - 1 = i + k + 1 by omega] at h2
  rw [show i + ((k + 1 : Nat) : Int) + 1 = i + k + 1 + 1 by omega]
  constructor
  ·have a:=h1.1;have b:=h2.1;grind
  ·have a:=h1.2;have b:=h2.2;grind
theorem Corr.mono {t : List Kn} (c : Corr t) {i j : Int} (i0 : 0 ≤ i) (h : i < j) (j1 : j < t.length) : kx t i < kx t j ∧ ky t i < ky t j:=by
 have:=c.lt (j - i - 1).toNat i i0 (by omega)
 rw [show i + ((j - i - 1).toNat : Int) + 1 = j by omega] at this
 exact this
def lineQ (t : List Kn) (i : Int) (x : Rat) : Rat:=ky t (i - 1) + (ky t i - ky t (i - 1)) * (x - kx t (i - 1)) / (kx t i - kx t (i - 1))
def ValQ (t : List Kn) (x v : Rat) : Prop:=∃ i : Int,1 ≤ i ∧ i < t.length ∧ kx t (i - 1) ≤ x ∧ x ≤ kx t i ∧ v = lineQ t i x
theorem line_end {t : List Kn} (c : Corr t) {i : Int} (i0 : 1 ≤ i) (i1 : i < t.length) : lineQ t i (kx t i) = ky t i:=by
 have h:=(c.incr i (by omega) i1).1
 unfold lineQ
 generalize kx t i = a at *
 generalize kx t (i - 1) = b at *
 generalize ky t i = u at *
 generalize ky t (i - 1) = v at *
 grind
theorem line_start {t : List Kn} (c : Corr t) {i : Int} (i0 : 1 ≤ i) (i1 : i < t.length) : lineQ t i (kx t (i - 1)) = ky t (i - 1):=by
 unfold lineQ
 generalize kx t i = a at *
 generalize kx t (i - 1) = b at *
 generalize ky t i = u at *
 generalize ky t (i - 1) = v at *
 have : b - b = 0:=by grind
 rw [this,Rat.mul_zero,Rat.div_def,Rat.zero_mul,Rat.add_zero]
theorem ValQ.uniq {t : List Kn} (c : Corr t) {x v w : Rat} (h : ValQ t x v) (k : ValQ t x w) : v = w:=by
 have main : ∀ (i j : Int),1 ≤ i → i < j → j < t.length → x ≤ kx t i → kx t (j - 1) ≤ x → lineQ t i x = lineQ t j x:=by
  intro i j i0 ij j1 h1 h2
  have hij : i = j - 1:=by
   by_cases e : i = j - 1
   ·exact e
   ·have:=(c.mono (i:=i) (j:=j - 1) (by omega) (by omega) (by omega)).1
    grind
  have hx : x = kx t i:=by rw [← hij] at h2;grind
  rw [hx,line_end c i0 (by omega)]
  have:=line_start c (i:=j) (by omega) j1
  rw [← hij] at this
  exact this.symm
 obtain ⟨i,i0,i1,h1,h2,rfl⟩:=h
 obtain ⟨j,j0,j1,k1,k2,rfl⟩:=k
 rcases Int.lt_trichotomy i j with e | e | e
 ·exact main i j i0 e j1 h2 k1
 ·rw [e]
 ·exact (main j i j0 e i1 k2 h1).symm
theorem line_mean {t : List Kn} (c : Corr t) {i : Int} (i0 : 1 ≤ i) (i1 : i < t.length) (x : Rat) :
  (kx t i - x) / (kx t i - kx t (i - 1)) * ky t (i - 1) + (x - kx t (i - 1)) / (kx t i - kx t (i - 1)) * ky t i = lineQ t i x:=by
 have h:=(c.incr i (by omega) i1).1
 unfold lineQ
 generalize kx t i = a at *
 generalize kx t (i - 1) = b at *
 generalize ky t i = u at *
 generalize ky t (i - 1) = v at *
 grind
theorem line_bnd {t : List Kn} (c : Corr t) {i : Int} (i0 : 1 ≤ i) (i1 : i < t.length) {x : Rat} (hx : bnd x 10000 10000) :
  bnd (ky t i - ky t (i - 1)) 20000 10000 ∧ bnd (x - kx t (i - 1)) 2000000 1000000 ∧ bnd (kx t i - kx t (i - 1)) 20000 10000 ∧ bnd ((ky t i - ky t (i - 1)) * (x - kx t (i - 1))) 40000000000 10000000000 ∧
   bnd ((ky t i - ky t (i - 1)) * (x - kx t (i - 1)) / (kx t i - kx t (i - 1))) 400000000000000 200000000000000 ∧ bnd (lineQ t i x) 60000000000000000 20000000000000000:=by
 obtain ⟨a1,a2⟩:=c.small i (by omega) i1
 obtain ⟨b1,b2⟩:=c.small (i - 1) (by omega) (by omega)
 have h1:=a2.sub b2
 have h2:=hx.sub b1
 have h3:=a1.sub b1
 have h4:=h1.mul h2
 have h5:=h4.div h3 (by omega)
 have h6:=b2.add h5
 exact ⟨h1,h2,h3,h4,h5,h6⟩
theorem mean_bnd {t : List Kn} (c : Corr t) {i : Int} (i0 : 1 ≤ i) (i1 : i < t.length) {x : Rat} (hx : bnd x 10000 10000) :
  bnd (kx t i - x) 2000000 1000000 ∧ bnd (x - kx t (i - 1)) 2000000 1000000 ∧ bnd (kx t i - kx t (i - 1)) 20000 10000 ∧ bnd ((kx t i - x) / (kx t i - kx t (i - 1))) 20000000000 20000000000 ∧ bnd ((x - kx t (i - 1)) / (kx t i - kx t (i - 1))) 20000000000 20000000000 ∧
   bnd ((kx t i - x) / (kx t i - kx t (i - 1)) * ky t (i - 1)) 2000000000000 2000000000000 ∧ bnd ((x - kx t (i - 1)) / (kx t i - kx t (i - 1)) * ky t i) 2000000000000 2000000000000:=by
 obtain ⟨a1,a2⟩:=c.small i (by omega) i1
 obtain ⟨b1,b2⟩:=c.small (i - 1) (by omega) (by omega)
 have h1:=a1.sub hx
 have h2:=hx.sub b1
 have h3:=a1.sub b1
 have h4:=h1.div h3 (by omega)
 have h5:=h2.div h3 (by omega)
 exact ⟨h1,h2,h3,h4,h5,h4.mul b2,h5.mul a2⟩
end Go.Proofs.Ytnokkniofajnhaa
namespace Go.Proofs.Ytnokkniofajnhaa
theorem line_lt {t : List Kn} (c : Corr t) {i : Int} (i0 : 1 ≤ i) (i1 : i < t.length) {x y : Rat} (h : x < y) : lineQ t i x < lineQ t i y:=by
 have h1:=(c.incr i (by omega) i1).1
 have h2:=(c.incr i (by omega) i1).2
 unfold lineQ
 generalize kx t i = a at *
 generalize kx t (i - 1) = b at *
 generalize ky t i = u at *
 generalize ky t (i - 1) = v at *
 have e : v + (u - v) * (y - b) / (a - b) = v + (u - v) * (x - b) / (a - b) + (u - v) * (y - x) * (a - b)⁻¹:=by grind
 rw [e]
 have p1 : 0 < (a - b)⁻¹:=Rat.inv_pos.2 (by grind)
 have p2 : 0 < (u - v) * (y - x):=Rat.mul_pos (by grind) (by grind)
 have p3:=Rat.mul_pos p2 p1
 grind
theorem line_le {t : List Kn} (c : Corr t) {i : Int} (i0 : 1 ≤ i) (i1 : i < t.length) {x y : Rat} (h : x ≤ y) : lineQ t i x ≤ lineQ t i y:=by
 by_cases e : x = y
 ·rw [e];exact Rat.le_refl
 ·exact Rat.le_of_lt (line_lt c i0 i1 (by grind))
theorem ValQ.ends {t : List Kn} (c : Corr t) {i : Int} (i0 : 1 ≤ i) (i1 : i < t.length) {x : Rat} (h1 : kx t (i - 1) ≤ x) (h2 : x ≤ kx t i) : ky t (i - 1) ≤ lineQ t i x ∧ lineQ t i x ≤ ky t i:=by
 have a:=line_le c i0 i1 h1
 have b:=line_le c i0 i1 h2
 rw [line_start c i0 i1] at a
 rw [line_end c i0 i1] at b
 exact ⟨a,b⟩
theorem ValQ.lt {t : List Kn} (c : Corr t) {x y v w : Rat} (h : ValQ t x v) (k : ValQ t y w) (hxy : x < y) : v < w:=by
 have hh:=h
 have kk:=k
 obtain ⟨i,i0,i1,h1,h2,rfl⟩:=h
 obtain ⟨j,j0,j1,k1,k2,rfl⟩:=k
 rcases Int.lt_trichotomy i j with e | e | e
 ·
  obtain ⟨_,a⟩:=ValQ.ends c i0 i1 h1 h2
  obtain ⟨b,_⟩:=ValQ.ends c j0 j1 k1 k2
  by_cases q : i = j - 1
  ·by_cases z : x = kx t i
   ·have y1 : kx t (j - 1) < y:=by rw [← q,← z];exact hxy
    have:=line_lt c j0 j1 y1
    rw [line_start c j0 j1,← q] at this
    grind
   ·have x1 : x < kx t i:=by grind
    have:=line_lt c i0 i1 x1
    rw [line_end c i0 i1] at this
    rw [← q] at b
    grind
  ·have:=(c.mono (i:=i) (j:=j - 1) (by omega) (by omega) (by omega)).2
   grind
 ·subst e
  exact line_lt c i0 i1 hxy
 ·exfalso
  by_cases q : j = i - 1
  ·rw [q] at k2
   grind
  ·have:=(c.mono (i:=j) (j:=i - 1) (by omega) (by omega) (by omega)).1
   grind
theorem ValQ.iff {t : List Kn} (c : Corr t) {x y v w : Rat} (h : ValQ t x v) (k : ValQ t y w) : (x < y ↔ v < w) ∧ (x = y ↔ v = w):=by
 have a:=fun q => ValQ.lt c h k q
 have b:=fun q => ValQ.lt c k h q
 have e : x = y → v = w:=fun q => by subst q;exact h.uniq c k
 constructor
 ·constructor
  ·exact a
  ·intro q
   rcases (show x < y ∨ x = y ∨ y < x by grind) with z | z | z
   ·exact z
   ·have:=e z;grind
   ·have:=b z;grind
 ·constructor
  ·exact e
  ·intro q
   rcases (show x < y ∨ x = y ∨ y < x by grind) with z | z | z
   ·have:=a z;grind
   ·exact z
   ·have:=b z;grind
def turnK (t : List Kn) : List Kn:=t.map fun k => (k.2,k.1)
theorem turn_len (t : List Kn) : (turnK t).length = t.length:=by unfold turnK;simp
theorem turn_x {t : List Kn} {i : Int} (i0 : 0 ≤ i) (i1 : i < t.length) : kx (turnK t) i = ky t i ∧ ky (turnK t) i = kx t i:=by
 unfold kx ky turnK
 rw [List.getD,List.getD,List.getElem?_map,List.getElem?_eq_getElem (by omega)]
 exact ⟨rfl,rfl⟩
theorem Corr.turn {t : List Kn} (c : Corr t) : Corr (turnK t):=by
 refine ⟨by rw [turn_len];exact c.two,by rw [turn_len];exact c.most,fun i i0 i1 => ?_,fun i i0 i1 => ?_⟩ <;> rw [turn_len] at i1
 ·obtain ⟨e1,e2⟩:=turn_x i0 i1
  rw [e1,e2]
  exact ⟨(c.small i i0 i1).2,(c.small i i0 i1).1⟩
 ·obtain ⟨e1,e2⟩:=turn_x (t:=t) (i:=i) (by omega) i1
  obtain ⟨f1,f2⟩:=turn_x (t:=t) (i:=i - 1) (by omega) (by omega)
  rw [e1,e2,f1,f2]
  exact ⟨(c.incr i i0 i1).2,(c.incr i i0 i1).1⟩
theorem ValQ.knot {t : List Kn} (c : Corr t) {i : Int} (i0 : 0 ≤ i) (i1 : i < t.length) : ValQ t (kx t i) (ky t i):=by
 have h2:=c.two
 by_cases q : 1 ≤ i
 ·exact ⟨i,q,i1,Rat.le_of_lt (c.incr i (by omega) i1).1,Rat.le_refl,(line_end c q i1).symm⟩
 ·have e : i = 1 - 1:=by omega
  rw [e]
  exact ⟨1,by omega,by omega,Rat.le_refl,Rat.le_of_lt (c.incr 1 (by omega) (by omega)).1,(line_start c (by omega) (by omega)).symm⟩
