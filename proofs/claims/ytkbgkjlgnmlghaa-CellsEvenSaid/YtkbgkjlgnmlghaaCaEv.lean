import Derived.Test.YtkbgkjlgnmlghaaCaTr
set_option linter.unusedSimpArgs false
set_option linter.unusedVariables false
namespace Go.Proofs.Ytkbgkjlgnmlghaa
open Go.Sim
set_option linter.unusedVariables false
set_option maxRecDepth 100000
theorem mkCk_small {z : Cq} {A B Q : Int} (q1 : 1 ≤ Q) (q2 : Q ≤ 1000000000) (a1 : -1000000000 ≤ A) (a2 : A ≤ 1000000000) (b1 : -1000000000 ≤ B) (b2 : B ≤ 1000000000) (h1 : (A : Rat) = z.re * (Q : Rat)) (h2 : (B : Rat) = z.im * (Q : Rat)) : ∃ k,mkCk z = some k:=by
 obtain ⟨s0,_,e1,e2,e3,p,g,r1,r2⟩:=red_ok (n:=A) (m:=B) (d:=Q) (g:=Int.gcd (Int.gcd A B) Q) (s:=Int.gcd (Int.gcd A B) Q) (by omega) rfl (by rw [if_neg (by omega)]) h1 h2
 generalize ((Int.gcd (Int.gcd A B) Q : Nat) : Int) = s at *
 have le : ∀ x : Int,x.tdiv s * s = x → (x.tdiv s).natAbs ≤ x.natAbs:=fun x hx => by
  have : x.natAbs = (x.tdiv s).natAbs * s.natAbs:=by rw [← Int.natAbs_mul,hx]
  rw [this]
  exact Nat.le_mul_of_pos_right _ (by omega)
 have l1:=le A e1
 have l2:=le B e2
 have l3:=le Q e3
 exact ⟨⟨A.tdiv s,B.tdiv s,Q.tdiv s⟩,mkCk_some.2 ⟨p,by simp only;omega,by simp only;omega,by simp only;omega,by simp only;omega,by simp only;omega,g,r1,r2⟩⟩
theorem mul_bnd {m a M A : Int} (m0 : 0 ≤ m) (m1 : m ≤ M) (a0 : -A ≤ a) (a1 : a ≤ A) : -(M * A) ≤ m * a ∧ m * a ≤ M * A:=by
 have h : (m * a).natAbs ≤ M.natAbs * A.natAbs:=by rw [Int.natAbs_mul];exact Nat.mul_le_mul (by omega) (by omega)
 have e : M * A = ((M.natAbs * A.natAbs : Nat) : Int):=by rw [Int.natCast_mul];congr 1 <;> omega
 rw [e]
 omega
structure Whole (D : Int) (wI : Pk → Int) (L : List Pk) : Prop where
 eq : ∀ e,e ∈ L → e.w * (D : Rat) = (wI e : Rat)
 pos : ∀ e,e ∈ L → 0 ≤ wI e
theorem Whole.tail {D : Int} {wI : Pk → Int} {e : Pk} {L : List Pk} (h : Whole D wI (e :: L)) : Whole D wI L:=⟨fun x q => h.eq x (by simp [q]),fun x q => h.pos x (by simp [q])⟩
def sumI (f : Pk → Int) : List Pk → Int
 | [] => 0
 | e :: L => f e + sumI f L
theorem Whole.nonneg {D : Int} {wI : Pk → Int} : ∀ {L : List Pk},Whole D wI L → 0 ≤ sumI wI L
 | [],_ => Int.le_refl 0
 | e :: L,h => by
  have h1:=h.pos e (by simp)
  have h2:=Whole.nonneg h.tail
  simp only [sumI]
  omega
theorem Whole.sum {D : Int} {wI : Pk → Int} : ∀ {L : List Pk},Whole D wI L → sumQ Pk.w L * (D : Rat) = (sumI wI L : Rat)
 | [],_ => by simp only [sumQ,sumI];grind
 | e :: L,h => by
  have h1:=h.eq e (by simp)
  have h2:=Whole.sum h.tail
  simp only [sumI,sumQ,Rat.intCast_add]
  grind
theorem rq_mul {a k : Int} (h : k ≠ 0) : rq a k * (k : Rat) = (a : Rat):=by
 have hd:=ratne h
 unfold rq
 rw [Rat.div_def,Rat.mul_assoc,Rat.inv_mul_cancel _ hd,Rat.mul_one]
theorem parts_whole {n : Int} {s : Sk} (cu : Coord n s.un s.ud) (cv : Coord n s.vn s.vd) : ∃ D wI,1 ≤ D ∧ D ≤ 36 ∧ Whole D wI (partsR n s n) ∧ sumI wI (partsR n s n) = D:=by
 have k1:=cu.k1
 have k2:=cv.k1
 have c1:=cu.c.2.2.1
 have c2:=cv.c.2.2.1
 have d1 : 1 * 1 ≤ s.ud * s.vd:=Int.mul_le_mul k1 k2 (by omega) (by omega)
 have d2 : s.ud * s.vd ≤ 6 * 6:=Int.mul_le_mul c1 c2 (by omega) (by omega)
 have wi : ∀ {m k i : Int},Coord n m k → ∃ a : Int,wQ m k i * (k : Rat) = (a : Rat):=fun {m k i} h => by
  have:=h.k1
  unfold wQ
  split
  ·exact ⟨_,rq_mul (by omega)⟩
  ·exact ⟨_,rq_mul (by omega)⟩
 have w : Whole (s.ud * s.vd) (fun e => (e.w * ((s.ud * s.vd : Int) : Rat)).num) (partsR n s n):=by
  have key : ∀ e,e ∈ partsR n s n → e.w * ((s.ud * s.vd : Int) : Rat) = ((e.w * ((s.ud * s.vd : Int) : Rat)).num : Rat) ∧ 0 ≤ (e.w * ((s.ud * s.vd : Int) : Rat)).num:=by
   intro e he
   have P:=partF cu cv he
   obtain ⟨i,j,hi,hj,wne,rfl⟩:=mem_cands.1 ((same_mem cu cv e).2 he)
   obtain ⟨a,ha⟩:=wi (i:=i) cu
   obtain ⟨b,hb⟩:=wi (i:=j) cv
   have hw : (mkP ((s.un / s.ud + i) % n) ((s.vn / s.vd + j) % n) (wQ s.un s.ud i * wQ s.vn s.vd j)).w = wQ s.un s.ud i * wQ s.vn s.vd j:=mkP_w (((cu.wb hi).mul (cv.wb hj)).fits (by omega) (by omega))
   have e1 : (mkP ((s.un / s.ud + i) % n) ((s.vn / s.vd + j) % n) (wQ s.un s.ud i * wQ s.vn s.vd j)).w * ((s.ud * s.vd : Int) : Rat) = ((a * b : Int) : Rat):=by
    rw [hw,Rat.intCast_mul,Rat.intCast_mul,← ha,← hb]
    grind
   rw [e1,Rat.num_intCast]
   refine ⟨rfl,?_⟩
   have p1 : 0 ≤ (mkP ((s.un / s.ud + i) % n) ((s.vn / s.vd + j) % n) (wQ s.un s.ud i * wQ s.vn s.vd j)).w:=by
    rw [hw];exact Rat.mul_nonneg (wQ_pos cu) (wQ_pos cv)
   have p2 : (0 : Rat) ≤ ((s.ud * s.vd : Int) : Rat):=by
    have : ((0 : Int) : Rat) ≤ ((s.ud * s.vd : Int) : Rat):=Rat.intCast_le_intCast.2 (by omega)
    exact this
   have p3:=Rat.mul_nonneg p1 p2
   rw [e1] at p3
   exact Rat.intCast_le_intCast.1 (show ((0 : Int) : Rat) ≤ ((a * b : Int) : Rat) from p3)
  exact ⟨fun e he => (key e he).1,fun e he => (key e he).2⟩
 refine ⟨s.ud * s.vd,_,by omega,by omega,w,?_⟩
 have h1:=w.sum
 rw [(sums cu cv).1,Rat.one_mul] at h1
 exact (Rat.intCast_inj.1 h1).symm
theorem deg_const {g : Gd} {c : Ck} (hc : c.ok) (d1 : c.d ≤ 1000) (a1 : -1000 ≤ c.a) (a2 : c.a ≤ 1000) (b1 : -1000 ≤ c.b) (b2 : c.b ≤ 1000) {D : Int} (D1 : 1 ≤ D) (D2 : D ≤ 36) {wI : Pk → Int} :
  ∀ (L : List Pk),Whole D wI L → (∀ e,e ∈ L → gt (gt g e.y) e.x = c) → ∀ (s : Ck) (M : Int),0 ≤ M → s.ok → s.val.re * (D : Rat) = (M : Rat) * c.val.re → s.val.im * (D : Rat) = (M : Rat) * c.val.im → M + sumI wI L ≤ D →
   ∃ k,degS g L s = some k ∧ k.ok ∧ k.val.re * (D : Rat) = ((M + sumI wI L : Int) : Rat) * c.val.re ∧ k.val.im * (D : Rat) = ((M + sumI wI L : Int) : Rat) * c.val.im
 | [],_,_,s,M,_,hs,h1,h2,_ => ⟨s,rfl,hs,by simp only [sumI,Int.add_zero];exact h1,by simp only [sumI,Int.add_zero];exact h2⟩
 | e :: L,hw,hg,s,M,M0,hs,h1,h2,hM => by
  have ic:=hc.is
  have cd1:=ic.d1
  have w1:=hw.eq e (by simp)
  have w0:=hw.pos e (by simp)
  have wt:=hw.tail.nonneg
  simp only [sumI] at hM
  have q1 : 1 * 1 ≤ D * c.d:=Int.mul_le_mul D1 cd1 (by omega) (by omega)
  have q2 : D * c.d ≤ 36 * 1000:=Int.mul_le_mul D2 d1 (by omega) (by omega)
  have r1:=mul_bnd (m:=wI e) (a:=c.a) (M:=36) (A:=1000) w0 (by omega) a1 a2
  have r2:=mul_bnd (m:=wI e) (a:=c.b) (M:=36) (A:=1000) w0 (by omega) b1 b2
  have r3:=mul_bnd (m:=M + wI e) (a:=c.a) (M:=36) (A:=1000) (by omega) (by omega) a1 a2
  have r4:=mul_bnd (m:=M + wI e) (a:=c.b) (M:=36) (A:=1000) (by omega) (by omega) b1 b2
  have re:=ic.re
  have im:=ic.im
  obtain ⟨p,hp⟩ : ∃ p,mkCk ((Cq.real e.w).mul c.val) = some p:=by
   refine mkCk_small (A:=wI e * c.a) (B:=wI e * c.b) (Q:=D * c.d) (by omega) (by omega) (by omega) (by omega) (by omega) (by omega) ?_ ?_
   ·rw [Rat.intCast_mul,Rat.intCast_mul,← w1,re];simp only [Cq.mul,Cq.real];grind
   ·rw [Rat.intCast_mul,Rat.intCast_mul,← w1,im];simp only [Cq.mul,Cq.real];grind
  have pv:=(mkCk_some.1 hp).val
  obtain ⟨k,hk⟩ : ∃ k,mkCk (s.val.add p.val) = some k:=by
   refine mkCk_small (A:=(M + wI e) * c.a) (B:=(M + wI e) * c.b) (Q:=D * c.d) (by omega) (by omega) (by omega) (by omega) (by omega) (by omega) ?_ ?_
   ·rw [Rat.intCast_mul,Rat.intCast_mul,Rat.intCast_add,← w1,re,pv];simp only [Cq.mul,Cq.real,Cq.add];grind
   ·rw [Rat.intCast_mul,Rat.intCast_mul,Rat.intCast_add,← w1,im,pv];simp only [Cq.mul,Cq.real,Cq.add];grind
  have kk:=mkCk_some.1 hk
  have hstep : plusF s e.w c = some k:=by unfold plusF;rw [hp];exact hk
  have kv:=kk.val
  have n1 : k.val.re * (D : Rat) = ((M + wI e : Int) : Rat) * c.val.re:=by
   rw [kv,pv,Rat.intCast_add,← w1];simp only [Cq.mul,Cq.real,Cq.add];grind
  have n2 : k.val.im * (D : Rat) = ((M + wI e : Int) : Rat) * c.val.im:=by
   rw [kv,pv,Rat.intCast_add,← w1];simp only [Cq.mul,Cq.real,Cq.add];grind
  obtain ⟨k',i1,i2,i3,i4⟩:=deg_const hc d1 a1 a2 b1 b2 D1 D2 L hw.tail (fun x q => hg x (by simp [q])) k (M + wI e) (by omega) ⟨_,kk⟩ n1 n2 (by omega)
  refine ⟨k',?_,i2,?_,?_⟩
  ·have e2 : degS g (e :: L) s = (plusF s e.w (gt (gt g e.y) e.x)).bind (degS g L):=by
    have:=degS_append g [e] L s
    rw [degS_one] at this
    exact this
   rw [e2,hg e (by simp),hstep]
   exact i1
  ·simp only [sumI];rw [show M + (wI e + sumI wI L) = M + wI e + sumI wI L by omega];exact i3
  ·simp only [sumI];rw [show M + (wI e + sumI wI L) = M + wI e + sumI wI L by omega];exact i4
theorem Ck.eq_of {a b : Ck} (ha : a.ok) (hb : b.ok) (h : a.val = b.val) : a = b:=by
 have ia:=ha.is
 have ib:=hb.is
 rw [h] at ia
 obtain ⟨x,y,z⟩:=ia.trip ib
 cases a;cases b
 simp only at x y z
 rw [x,y,z]
theorem even_deg {n : Int} {s : Sk} (cu : Coord n s.un s.ud) (cv : Coord n s.vn s.vd) {g : Gd} {c : Ck} (hc : c.ok) (d1 : c.d ≤ 1000) (a1 : -1000 ≤ c.a) (a2 : c.a ≤ 1000) (b1 : -1000 ≤ c.b) (b2 : c.b ≤ 1000) (hg : ∀ y x : Int,0 ≤ y → y < n → 0 ≤ x → x < n → gt (gt g y) x = c) : degS g (partsR n s n) zeroK = some c:=by
 obtain ⟨D,wI,D1,D2,W,S⟩:=parts_whole cu cv
 have z : zeroK.val = Cq.zero:=zeroK_val
 obtain ⟨k,h1,h2,h3,h4⟩:=deg_const hc d1 a1 a2 b1 b2 D1 D2 _ W (fun e he => by have P:=partF cu cv he;exact hg _ _ P.y0 P.y1 P.x0 P.x1) zeroK 0 (by omega) zeroK_ok (by rw [z];simp only [Cq.zero];grind) (by rw [z];simp only [Cq.zero];grind) (by omega)
 rw [h1]
 congr 1
 refine Ck.eq_of h2 hc ?_
 have hD:=ratne (show D ≠ 0 by omega)
 rw [S,Int.zero_add,Rat.mul_comm (D : Rat)] at h3 h4
 exact Cq.ext (cancelQ hD h3) (cancelQ hD h4)
def wK (e : Pk) : Ck:=⟨e.n,0,e.d⟩
noncomputable def sqS (L : List Pk) (s : Ck) : Option Ck:=L.foldlM (fun s e => plusF s e.w (wK e)) s
theorem sqS_append (a b : List Pk) (s : Ck) : sqS (a ++ b) s = (sqS a s).bind (sqS b):=by unfold sqS;rw [List.foldlM_append];rfl
theorem sqS_one (e : Pk) (s : Ck) : sqS [e] s = plusF s e.w (wK e):=by unfold sqS;rw [List.foldlM_cons];cases plusF s e.w (wK e) <;> rfl
theorem sqS_cons (e : Pk) (L : List Pk) (s : Ck) : sqS (e :: L) s = (plusF s e.w (wK e)).bind (sqS L):=by
 have:=sqS_append [e] L s
 rw [sqS_one] at this
 exact this
theorem wK_is {n : Int} {e : Pk} (P : PartF n e) : isC e.n 0 e.d (Cq.real e.w):=isC_real P.f (by have:=P.n1;omega) (by have:=P.n2;omega) (by have:=P.d2;omega)
theorem wK_val {n : Int} {e : Pk} (P : PartF n e) : (wK e).val = Cq.real e.w:=isC.val (k:=wK e) (wK_is P)
theorem sq_some {n : Int} {D : Int} (D1 : 1 ≤ D) (D2 : D ≤ 36) {wI : Pk → Int} :
  ∀ (L : List Pk),Whole D wI L → (∀ e,e ∈ L → PartF n e) → ∀ (s : Ck) (M : Int),0 ≤ M → s.ok → s.val.re * ((D * D : Int) : Rat) = (M : Rat) → s.val.im = 0 → sumI wI L ≤ D → M + D * sumI wI L ≤ D * D → ∃ k,sqS L s = some k
 | [],_,_,s,M,_,hs,h1,h2,_,_ => ⟨s,rfl⟩
 | e :: L,hw,hP,s,M,M0,hs,h1,h2,hL,hM => by
  have P:=hP e (by simp)
  have w1:=hw.eq e (by simp)
  have w0:=hw.pos e (by simp)
  have wt:=hw.tail.nonneg
  simp only [sumI] at hM hL
  have wv:=wK_val P
  have dd1 : 1 * 1 ≤ D * D:=Int.mul_le_mul D1 D1 (by omega) (by omega)
  have dd2 : D * D ≤ 36 * 36:=Int.mul_le_mul D2 D2 (by omega) (by omega)
  have ww : 0 ≤ wI e * wI e:=Int.mul_nonneg w0 w0
  have ww2 : wI e * wI e ≤ D * wI e:=Int.mul_le_mul_of_nonneg_right (by omega) w0
  have dt : 0 ≤ D * sumI wI L:=Int.mul_nonneg (by omega) wt
  rw [Int.mul_add] at hM
  obtain ⟨p,hp⟩ : ∃ p,mkCk ((Cq.real e.w).mul (wK e).val) = some p:=by
   refine mkCk_small (A:=wI e * wI e) (B:=0) (Q:=D * D) (by omega) (by omega) (by omega) (by omega) (by omega) (by omega) ?_ ?_
   ·rw [Rat.intCast_mul,Rat.intCast_mul,← w1,wv];simp only [Cq.mul,Cq.real];grind
   ·rw [wv];simp only [Cq.mul,Cq.real];grind
  have pv:=(mkCk_some.1 hp).val
  obtain ⟨k,hk⟩ : ∃ k,mkCk (s.val.add p.val) = some k:=by
   refine mkCk_small (A:=M + wI e * wI e) (B:=0) (Q:=D * D) (by omega) (by omega) (by omega) (by omega) (by omega) (by omega) ?_ ?_
   ·rw [Rat.intCast_add,← h1,Rat.intCast_mul,Rat.intCast_mul,← w1,pv,wv];simp only [Cq.mul,Cq.real,Cq.add];grind
   ·rw [pv,wv];simp only [Cq.mul,Cq.real,Cq.add];rw [h2];grind
  have kk:=mkCk_some.1 hk
  have kv:=kk.val
  obtain ⟨k',i1⟩:=sq_some D1 D2 L hw.tail (fun x q => hP x (by simp [q])) k (M + wI e * wI e) (by omega) ⟨_,kk⟩ (by
   rw [kv,pv,wv,Rat.intCast_add,← h1,Rat.intCast_mul,Rat.intCast_mul,← w1];simp only [Cq.mul,Cq.real,Cq.add];grind) (by
   rw [kv,pv,wv];simp only [Cq.mul,Cq.real,Cq.add];rw [h2];grind) (by omega) (by omega)
  refine ⟨k',?_⟩
  rw [sqS_cons]
  unfold plusF
  rw [hp]
  show (mkCk _).bind _ = _
  rw [hk]
  exact i1
theorem sq_parts {n : Int} {s : Sk} (cu : Coord n s.un s.ud) (cv : Coord n s.vn s.vd) : ∃ k,sqS (partsR n s n) zeroK = some k:=by
 obtain ⟨D,wI,D1,D2,W,S⟩:=parts_whole cu cv
 exact sq_some D1 D2 _ W (fun e he => partF cu cv he) zeroK 0 (by omega) zeroK_ok (by rw [zeroK_val];simp only [Cq.zero];grind) (by rw [zeroK_val];rfl) (by omega) (by rw [S];omega)
def oneK : Ck:=⟨1,0,1⟩
theorem oneK_is : isC 1 0 1 (Cq.real 1):=⟨by decide,by decide,by decide,by decide,by decide,by decide,by decide,by simp [Cq.real],by simp [Cq.real]⟩
theorem oneK_val : oneK.val = Cq.real 1:=isC.val (k:=oneK) oneK_is
theorem plus_one {n : Int} {e : Pk} (P : PartF n e) : plusF zeroK e.w oneK = some (wK e):=by
 unfold plusF
 have e1 : (Cq.real e.w).mul oneK.val = Cq.real e.w:=by rw [oneK_val];exact Cq.ext (by simp only [Cq.mul,Cq.real];grind) (by simp only [Cq.mul,Cq.real];grind)
 have e2 : mkCk (Cq.real e.w) = some (wK e):=mkCk_some.2 (wK_is P)
 rw [e1,e2]
 show mkCk _ = _
 rw [zeroK_val,wK_val P,Cq.zero_add',e2]
theorem run_apart {n : Nat} : ∀ (L : List Pk) (G : Gd),SqG n G → (∀ e,e ∈ L → PartF n e ∧ gt (gt G e.y) e.x = zeroK) → L.Pairwise (fun a b => ¬ (a.x = b.x ∧ a.y = b.y)) →
  ∃ G',run (L.map fun e => (e,oneK)) G = some G' ∧ SqG n G' ∧ (∀ e,e ∈ L → gt (gt G' e.y) e.x = wK e) ∧ (∀ y x : Int,0 ≤ y → y < n → 0 ≤ x → x < n → (∀ e,e ∈ L → ¬ (x = e.x ∧ y = e.y)) → gt (gt G' y) x = gt (gt G y) x)
 | [],G,hG,_,_ => ⟨G,rfl,hG,fun e he => by simp at he,fun _ _ _ _ _ _ _ => rfl⟩
 | e :: L,G,hG,hL,hp => by
  obtain ⟨P,z⟩:=hL e (by simp)
  obtain ⟨p1,p2⟩:=List.pairwise_cons.1 hp
  have px : 0 ≤ e.x ∧ e.x < n:=⟨P.x0,P.x1⟩
  have py : 0 ≤ e.y ∧ e.y < n:=⟨P.y0,P.y1⟩
  have st : gridStep G (e,oneK) = some (G.set e.y.toNat ((gt G e.y).set e.x.toNat (wK e))):=by
   unfold gridStep
   simp only [z,plus_one P]
   rfl
  have hG2:=hG.step px py st
  have cell : ∀ y x : Int,0 ≤ y → y < n → 0 ≤ x → x < n → gt (gt (G.set e.y.toNat ((gt G e.y).set e.x.toNat (wK e))) y) x = if x = e.x ∧ y = e.y then wK e else gt (gt G y) x:=fun y x y0 y1 x0 x1 => by
   rw [gt_set G py.1 y0 (by rw [hG.len];omega)]
   by_cases e1 : y = e.y
   ·rw [if_pos e1,gt_set _ px.1 x0 (by rw [hG.row _ py.1 py.2];exact px.2)]
    by_cases e2 : x = e.x
    ·rw [if_pos e2,if_pos ⟨e2,e1⟩]
    ·rw [if_neg e2,if_neg (fun q => e2 q.1),e1]
   ·rw [if_neg e1,if_neg (fun q => e1 q.2)]
  obtain ⟨G',g1,g2,g3,g4⟩:=run_apart L _ hG2 (fun e' he' => by
   obtain ⟨P',z'⟩:=hL e' (by simp [he'])
   refine ⟨P',?_⟩
   rw [cell _ _ P'.y0 P'.y1 P'.x0 P'.x1,if_neg (fun q => p1 e' he' ⟨q.1.symm,q.2.symm⟩)]
   exact z') p2
  refine ⟨G',?_,g2,fun e' he' => ?_,fun y x y0 y1 x0 x1 hne => ?_⟩
  ·rw [List.map_cons]
   have:=run_append [(e,oneK)] (L.map fun e => (e,oneK)) G
   rw [run_one,st] at this
   exact this.trans g1
  ·rcases List.mem_cons.1 he' with rfl | he'
   ·rw [g4 _ _ py.1 py.2 px.1 px.2 (fun e2 he2 => p1 e2 he2),cell _ _ py.1 py.2 px.1 px.2,if_pos ⟨rfl,rfl⟩]
   ·exact g3 e' he'
  ·rw [g4 y x y0 y1 x0 x1 (fun e2 he2 => hne e2 (by simp [he2])),cell y x y0 y1 x0 x1,if_neg (hne e (by simp))]
theorem parts_apart {n : Int} {s : Sk} : (partsR n s n).Pairwise (fun a b => ¬ (a.x = b.x ∧ a.y = b.y)):=(partsR_sorted n s).imp (fun {a b} h => by unfold ltP at h;omega)
theorem one_run {n : Int} {nn : Nat} (hn : n = nn) {s : Sk} (cu : Coord n s.un s.ud) (cv : Coord n s.vn s.vd) : ∃ G,run (contrib n [s] [oneK] 1) (zeroG n.toNat) = some G ∧ SqG nn G ∧ degS G (partsR n s n) zeroK = sqS (partsR n s n) zeroK:=by
 subst hn
 have e1 : contrib (nn : Int) [s] [oneK] 1 = (partsR nn s nn).map fun e => (e,oneK):=by
  unfold contrib
  have : upTo 1 = [0]:=rfl
  rw [this]
  simp only [List.flatMap_cons,List.flatMap_nil,List.append_nil]
  rfl
 obtain ⟨G,g1,g2,g3,_⟩:=run_apart (n:=nn) (partsR nn s nn) (zeroG nn) (zeroG_sq nn) (fun e he => by
  have P:=partF cu cv he
  refine ⟨P,?_⟩
  unfold zeroG
  rw [gt_replicate nn _ P.y0 P.y1,gt_replicate nn _ P.x0 P.x1]) parts_apart
 refine ⟨G,by rw [e1,Int.toNat_natCast];exact g1,g2,?_⟩
 have : ∀ (L : List Pk) (s : Ck),(∀ e,e ∈ L → gt (gt G e.y) e.x = wK e) → degS G L s = sqS L s:=by
  intro L
  induction L with
  | nil => intro s _;rfl
  | cons e L ih =>
   intro s h
   have e2 : degS G (e :: L) s = (plusF s e.w (gt (gt G e.y) e.x)).bind (degS G L):=by
    have:=degS_append G [e] L s
    rw [degS_one] at this
    exact this
   rw [e2,sqS_cons,h e (by simp)]
   congr 1
   funext s'
   exact ih s' (fun x q => h x (by simp [q]))
 exact this _ _ g3
end Go.Proofs.Ytkbgkjlgnmlghaa
