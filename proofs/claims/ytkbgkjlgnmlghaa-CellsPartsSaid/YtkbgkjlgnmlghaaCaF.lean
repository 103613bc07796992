import Derived.Test.YtkbgkjlgnmlghaaCaE
set_option linter.unusedSimpArgs false
set_option linter.unusedVariables false
namespace Go.Proofs.Ytkbgkjlgnmlghaa
open Go.Sim
set_option linter.unusedVariables false
set_option maxRecDepth 100000
def Pk.w (e : Pk) : Rat:=rq e.n e.d
def sumQ (f : Pk → Rat) : List Pk → Rat
 | [] => 0
 | e :: l => f e + sumQ f l
theorem sumQ_append (f : Pk → Rat) (l m : List Pk) : sumQ f (l ++ m) = sumQ f l + sumQ f m:=by
 induction l with
 | nil => show sumQ f m = 0 + sumQ f m;grind
 | cons e l ih => simp only [List.cons_append,sumQ,ih];grind
theorem sumQ_perm (f : Pk → Rat) {l m : List Pk} (h : l.Perm m) : sumQ f l = sumQ f m:=by
 induction h with
 | nil => rfl
 | cons e _ ih => simp only [sumQ,ih]
 | swap a b l => simp only [sumQ];grind
 | trans _ _ h1 h2 => rw [h1,h2]
theorem parts_perm {n : Int} {s : Sk} (cu : Coord n s.un s.ud) (cv : Coord n s.vn s.vd) : (cands n s).Perm (partsR n s n):=by
 rw [List.perm_iff_count]
 intro a
 have nd1 : (cands n s).Nodup:=(cands_apart cu cv).imp (fun {a b} h e => h ⟨by rw [e],by rw [e]⟩)
 have nd2 : (partsR n s n).Nodup:=(partsR_sorted n s).imp (fun {a b} h e => by unfold ltP at h;rw [e] at h;omega)
 rw [List.Nodup.count nd1,List.Nodup.count nd2]
 simp only [same_mem cu cv]
theorem Coord.wf {n m k : Int} (h : Coord n m k) {i : Int} (hi : i = 0 ∨ i = 1) : ∃ a b,isF a b (wQ m k i) ∧ 0 ≤ a ∧ a ≤ 6 ∧ b ≤ 6:=by
 have rm:=h.rem;have k6:=h.c.2.2.1;have k1:=h.k1
 unfold wQ
 rcases hi with rfl | rfl
 ·rw [if_pos rfl];exact ⟨_,_,h.f0,by omega,by omega,k6⟩
 ·rw [if_neg (by omega)];exact ⟨_,_,h.f1,by omega,by omega,k6⟩
theorem Coord.wb {n m k : Int} (h : Coord n m k) {i : Int} (hi : i = 0 ∨ i = 1) : bnd (wQ m k i) 6 6:=by
 obtain ⟨a,b,f,h1,h2,h3⟩:=h.wf hi
 exact ⟨by have:=f.1;omega,by have:=f.2.1;omega⟩
structure PartF (n : Int) (e : Pk) : Prop where
 f : isF e.n e.d e.w
 n1 : 0 < e.n
 n2 : e.n ≤ 36
 d2 : e.d ≤ 36
 x0 : 0 ≤ e.x
 x1 : e.x < n
 y0 : 0 ≤ e.y
 y1 : e.y < n
theorem mkP_w {x y : Int} {w : Rat} (hf : fits w) : (mkP x y w).w = w:=by
 have : isF (mkP x y w).n (mkP x y w).d w:=⟨rfl,rfl,hf⟩
 exact this.rq
theorem partF {n : Int} {s : Sk} (cu : Coord n s.un s.ud) (cv : Coord n s.vn s.vd) {e : Pk} (he : e ∈ partsR n s n) : PartF n e:=by
 obtain ⟨i,j,hi,hj,w,rfl⟩:=mem_cands.1 ((same_mem cu cv e).2 he)
 have b:=(cu.wb hi).mul (cv.wb hj)
 have hf:=b.fits (by omega) (by omega)
 have n0:=cu.n0
 have p:=Rat.mul_nonneg (wQ_pos cu (i:=i)) (wQ_pos cv (i:=j))
 have pos : 0 < (wQ s.un s.ud i * wQ s.vn s.vd j).num:=(num_pos _).2 (by grind)
 have b1:=b.1
 have b2:=b.2
 refine ⟨?_,pos,?_,?_,Int.emod_nonneg _ (by omega),Int.emod_lt_of_pos _ (by omega),Int.emod_nonneg _ (by omega),Int.emod_lt_of_pos _ (by omega)⟩
 ·rw [mkP_w hf];exact ⟨rfl,rfl,hf⟩
 ·show (wQ s.un s.ud i * wQ s.vn s.vd j).num ≤ 36
  omega
 ·show (((wQ s.un s.ud i * wQ s.vn s.vd j).den : Nat) : Int) ≤ 36
  omega
def adj (n m k c : Int) : Int:=if c = 0 ∧ (n - 1) * k < m then n else c
theorem adj_at {n m k : Int} (h : Coord n m k) {i : Int} (hi : i = 0 ∨ i = 1) (w : wQ m k i ≠ 0) : adj n m k ((m / k + i) % n) = m / k + i:=by
 have X:=h.x;have n0:=h.n0;have k1:=h.k1;have rm:=h.rem
 have key:=Int.mul_ediv_add_emod m k
 unfold adj
 rcases hi with rfl | rfl
 ·rw [Int.add_zero,Int.emod_eq_of_lt X.1 X.2,if_neg]
  rintro ⟨z,q⟩
  rw [z,Int.mul_zero] at key
  have : 1 * k ≤ (n - 1) * k:=Int.mul_le_mul_of_nonneg_right (by omega) (by omega)
  omega
 ·have r0 : m % k ≠ 0:=fun z => w (by unfold wQ rq;rw [if_neg (by omega),z,Rat.div_def];simp)
  by_cases c : m / k + 1 < n
  ·rw [Int.emod_eq_of_lt (by omega) c,if_neg (by omega)]
  ·have e : m / k + 1 = n:=by omega
   rw [e,Int.emod_self,if_pos]
   refine ⟨rfl,?_⟩
   have : m / k = n - 1:=by omega
   rw [this,Int.mul_comm] at key
   omega
theorem sum_cand {n : Int} {s : Sk} (cu : Coord n s.un s.ud) (cv : Coord n s.vn s.vd) {i j : Int} (hi : i = 0 ∨ i = 1) (hj : j = 0 ∨ j = 1) :
  sumQ Pk.w (cand n s i j) = wQ s.un s.ud i * wQ s.vn s.vd j ∧ sumQ (fun e => e.w * (adj n s.un s.ud e.x : Int)) (cand n s i j) = wQ s.un s.ud i * wQ s.vn s.vd j * ((s.un / s.ud + i : Int) : Rat) ∧
   sumQ (fun e => e.w * (adj n s.vn s.vd e.y : Int)) (cand n s i j) = wQ s.un s.ud i * wQ s.vn s.vd j * ((s.vn / s.vd + j : Int) : Rat):=by
 have hf:=((cu.wb hi).mul (cv.wb hj)).fits (by omega) (by omega)
 unfold cand
 split
 ·rename_i z
  rw [z]
  simp [sumQ]
 ·rename_i z
  have z1 : wQ s.un s.ud i ≠ 0:=fun q => z (by rw [q];grind)
  have z2 : wQ s.vn s.vd j ≠ 0:=fun q => z (by rw [q];grind)
  have a1:=adj_at cu hi z1
  have a2:=adj_at cv hj z2
  simp only [sumQ]
  rw [mkP_w hf]
  refine ⟨by grind,?_,?_⟩
  ·show _ * ((adj n s.un s.ud ((s.un / s.ud + i) % n) : Int) : Rat) + 0 = _
   rw [a1];grind
  ·show _ * ((adj n s.vn s.vd ((s.vn / s.vd + j) % n) : Int) : Rat) + 0 = _
   rw [a2];grind
theorem wQ_sum {n m k : Int} (h : Coord n m k) : wQ m k 0 + wQ m k 1 = 1 ∧ ((m / k : Int) : Rat) + wQ m k 1 = rq m k:=by
 have up:=h.up;have lo:=h.low
 have e1 : ((1 : Int) : Rat) = 1:=rfl
 unfold wQ
 rw [if_pos rfl,if_neg (by omega)]
 grind
theorem sums {n : Int} {s : Sk} (cu : Coord n s.un s.ud) (cv : Coord n s.vn s.vd) :
  sumQ Pk.w (partsR n s n) = 1 ∧ sumQ (fun e => e.w * (adj n s.un s.ud e.x : Int)) (partsR n s n) = rq s.un s.ud ∧ sumQ (fun e => e.w * (adj n s.vn s.vd e.y : Int)) (partsR n s n) = rq s.vn s.vd:=by
 have p:=parts_perm cu cv
 rw [← sumQ_perm _ p,← sumQ_perm _ p,← sumQ_perm _ p]
 unfold cands
 simp only [sumQ_append]
 obtain ⟨a1,a2,a3⟩:=sum_cand cu cv (i:=0) (j:=0) (.inl rfl) (.inl rfl)
 obtain ⟨b1,b2,b3⟩:=sum_cand cu cv (i:=1) (j:=0) (.inr rfl) (.inl rfl)
 obtain ⟨c1,c2,c3⟩:=sum_cand cu cv (i:=0) (j:=1) (.inl rfl) (.inr rfl)
 obtain ⟨d1,d2,d3⟩:=sum_cand cu cv (i:=1) (j:=1) (.inr rfl) (.inr rfl)
 rw [a1,a2,a3,b1,b2,b3,c1,c2,c3,d1,d2,d3]
 obtain ⟨u1,u2⟩:=wQ_sum cu
 obtain ⟨v1,v2⟩:=wQ_sum cv
 have e0 : ∀ z : Int,((z + 0 : Int) : Rat) = (z : Rat):=fun z => by rw [Int.add_zero]
 have e1 : ∀ z : Int,((z + 1 : Int) : Rat) = (z : Rat) + 1:=fun z => by rw [Rat.intCast_add];rfl
 rw [e0,e1,e0,e1]
 generalize wQ s.un s.ud 0 = p0 at *
 generalize wQ s.un s.ud 1 = p1 at *
 generalize wQ s.vn s.vd 0 = q0 at *
 generalize wQ s.vn s.vd 1 = q1 at *
 generalize ((s.un / s.ud : Int) : Rat) = x at *
 generalize ((s.vn / s.vd : Int) : Rat) = y at *
 refine ⟨?_,?_,?_⟩
 ·have : (p0 + p1) * (q0 + q1) = 1:=by rw [u1,v1];grind
  grind
 ·rw [← u2]
  have : p0 = 1 - p1:=by grind
  have : q0 = 1 - q1:=by grind
  subst p0 q0
  grind
 ·rw [← v2]
  have : p0 = 1 - p1:=by grind
  have : q0 = 1 - q1:=by grind
  subst p0 q0
  grind
theorem parts_few {n : Int} {s : Sk} (cu : Coord n s.un s.ud) (cv : Coord n s.vn s.vd) : 1 ≤ (partsR n s n).length ∧ (partsR n s n).length ≤ 4 ∧ (s.ud = 1 → s.vd = 1 → (partsR n s n).length = 1):=by
 have p:=(parts_perm cu cv).length_eq
 rw [← p]
 have c00:=cand_len n s 0 0
 have c10:=cand_len n s 1 0
 have c01:=cand_len n s 0 1
 have c11:=cand_len n s 1 1
 have ne:=List.length_pos_iff.2 (cands_ne (n:=n) (un:=s.un) (ud:=s.ud) (vn:=s.vn) (vd:=s.vd) cu cv)
 have len : (cands n s).length = (cand n s 0 0).length + (cand n s 1 0).length + (cand n s 0 1).length + (cand n s 1 1).length:=by unfold cands;simp only [List.length_append]
 have ne : 0 < (cands n s).length:=ne
 refine ⟨by omega,by omega,fun h1 h2 => ?_⟩
 have z : ∀ m : Int,wQ m 1 1 = 0:=fun m => by unfold wQ rq;rw [if_neg (by omega),Int.emod_one,Rat.div_def];simp
 have e10 : cand n s 1 0 = []:=by unfold cand;rw [h1,z,if_pos (by grind)]
 have e01 : cand n s 0 1 = []:=by unfold cand;rw [h2,z,if_pos (by grind)]
 have e11 : cand n s 1 1 = []:=by unfold cand;rw [h2,z,if_pos (by grind)]
 rw [e10,e01,e11] at len
 simp only [List.length_nil] at len
 omega
def NB : Nat → Nat
 | 0 => 0
 | i + 1 => NB i * 36 + 288 * 36 ^ i
theorem sum_bnd {f : Pk → Rat} {L : List Pk} (hf : ∀ e,e ∈ L → bnd (f e) 288 36) : ∀ i : Nat,i ≤ L.length → bnd (sumQ f (L.take i)) (NB i) (36 ^ i):=by
 intro i
 induction i with
 | zero => intro _;simp only [List.take_zero,sumQ];exact ⟨by decide,by decide⟩
 | succ i ih =>
  intro hi
  have h1:=ih (by omega)
  have e:=gt_take L (i:=i) (by omega) (by omega)
  rw [show ((i : Int) + 1).toNat = i + 1 by omega,Int.toNat_natCast] at e
  rw [e,sumQ_append]
  have h2:=hf _ (gt_mem L (i:=i) (by omega) (by omega))
  have:=h1.add h2
  simp only [sumQ]
  rw [show f (gt L i) + 0 = f (gt L i) by grind]
  exact this
theorem sum_fits {f : Pk → Rat} {L : List Pk} (hf : ∀ e,e ∈ L → bnd (f e) 288 36) (hL : L.length ≤ 4) {i : Nat} (hi : i ≤ L.length) : fits (sumQ f (L.take i)):=by
 refine (sum_bnd hf i hi).fits ?_ ?_
 ·rcases (by omega : i = 0 ∨ i = 1 ∨ i = 2 ∨ i = 3 ∨ i = 4) with rfl | rfl | rfl | rfl | rfl <;> decide
 ·rcases (by omega : i = 0 ∨ i = 1 ∨ i = 2 ∨ i = 3 ∨ i = 4) with rfl | rfl | rfl | rfl | rfl <;> decide
end Go.Proofs.Ytkbgkjlgnmlghaa
