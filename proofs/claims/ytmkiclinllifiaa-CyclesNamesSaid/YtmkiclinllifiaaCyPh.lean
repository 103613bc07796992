import Derived.Test.YtmkiclinllifiaaCyRy
set_option linter.unusedSimpArgs false
set_option linter.unusedVariables false
namespace Go.Proofs.Ytmkiclinllifiaa
open Go.Sim
set_option maxRecDepth 100000
theorem pr_inj:∀{l:List Vk},(l.map Vk.pr).Nodup->∀{v w:Vk},v∈l->w∈l->v.pr=w.pr->v=w
 | [],_,v,w,hv,_,_=>by cases hv
 |u :: l,hd,v,w,hv,hw,e=>by
  rw[List.map_cons,List.nodup_cons]at hd;rcases List.mem_cons.1 hv with e1|hv1
  ·rcases List.mem_cons.1 hw with e2|hw1
   ·rw[e1,e2]
   ·subst e1;exact absurd (by rw[e];exact List.mem_map_of_mem hw1) hd.1
  ·rcases List.mem_cons.1 hw with e2|hw1
   ·subst e2;exact absurd (by rw[<-e];exact List.mem_map_of_mem hv1) hd.1
   ·exact pr_inj hd.2 hv1 hw1 e
def hitV(x y:Int)(v:Vk):Bool:=decide ((v.i=x/\v.j=y)\/(v.i=y/\v.j=x))
def fv(l:List Vk)(x y:Int):Option Ck:=
 match l.find? (hitV x y)with
 |none=>none
 |some v=>some (if v.i=x then⟨v.re,v.im,v.den⟩else⟨v.re,-v.im,v.den⟩)
theorem fv_none{l:List Vk}{x y:Int}:fv l x y=none↔∀v∈l,¬(v.i=x/\v.j=y)/\¬(v.i=y/\v.j=x):=by
 unfold fv;constructor
 ·intro h v hv
  cases hf:l.find? (hitV x y)with
  |some w=>rw[hf]at h;cases h
  |none=>
   have:=List.find?_eq_none.1 hf v hv;unfold hitV at this;rw[decide_eq_true_iff]at this;exact⟨fun q=>this (.inl q),fun q=>this (.inr q)⟩
 ·intro h
  rw[List.find?_eq_none.2 (fun v hv=>by unfold hitV;rw[decide_eq_true_iff];exact fun q=>q.elim (h v hv).1 (h v hv).2)]
theorem fv_to{l:List Vk}(hk:∀v∈l,okV v)(hd:(l.map Vk.pr).Nodup){x y:Int}{v:Vk}(hv:v∈l)(h:v.i=x/\v.j=y):fv l x y=some ⟨v.re,v.im,v.den⟩:=by
 unfold fv;cases hf:l.find? (hitV x y)with
 |none=>exact absurd h ((fv_none (l:=l) (x:=x) (y:=y)).1 (by unfold fv;rw[hf]) v hv).1
 |some w=>
  have hw:=List.mem_of_find?_eq_some hf;have h2:=List.find?_some hf;unfold hitV at h2;rw[decide_eq_true_iff]at h2;have l1:=(hk v hv).2.1;have l2:=(hk w hw).2.1;rcases h2 with h2|h2
  ·rw[show w=v from pr_inj hd hw hv (by unfold Vk.pr;rw[h2.1,h2.2,h.1,h.2])]
   simp only[h.1,if_true]
  ·omega
theorem fv_back{l:List Vk}(hk:∀v∈l,okV v)(hd:(l.map Vk.pr).Nodup){x y:Int}{v:Vk}(hv:v∈l)(h:v.i=y/\v.j=x):fv l x y=some ⟨v.re,-v.im,v.den⟩:=by
 unfold fv;cases hf:l.find? (hitV x y)with
 |none=>exact absurd h ((fv_none (l:=l) (x:=x) (y:=y)).1 (by unfold fv;rw[hf]) v hv).2
 |some w=>
  have hw:=List.mem_of_find?_eq_some hf;have h2:=List.find?_some hf;unfold hitV at h2;rw[decide_eq_true_iff]at h2;have l1:=(hk v hv).2.1;have l2:=(hk w hw).2.1;rcases h2 with h2|h2
  ·omega
  ·rw[show w=v from pr_inj hd hw hv (by unfold Vk.pr;rw[h2.1,h2.2,h.1,h.2])]
   simp only[show ¬v.i=x by omega,if_false]
theorem okC_conj{a b d:Int}(h:okC a b d):okC a (-b) d:=by
 rw[okC_iff]at h ⊢;rw[Int.gcd_neg];omega
theorem fv_ok{l:List Vk}(hk:∀v∈l,okV v){x y:Int}{k:Ck}(h:fv l x y=some k):k.ok:=by
 unfold fv at h;cases hf:l.find? (hitV x y)with
 |none=>rw[hf]at h;cases h
 |some w=>
  rw[hf]at h;obtain rfl:=Option.some.inj h;have hw:=(hk w (List.mem_of_find?_eq_some hf)).2.2.2.2;unfold Ck.ok;split
  ·exact hw
  ·exact okC_conj hw
theorem FndO.is{l:List Vk}(hk:∀v∈l,okV v)(hd:(l.map Vk.pr).Nodup){x y u v w e:Int}(h:FndO l x y u v w e):(e=6/\fv l x y=none)\/(e=0/\fv l x y=some ⟨u,v,w⟩):=by
 cases h with
 |no h=>exact .inl ⟨rfl,fv_none.2 h⟩
 |to v hv h=>exact .inr ⟨rfl,fv_to hk hd hv h⟩
 |back v hv h=>exact .inr ⟨rfl,fv_back hk hd hv h⟩
def zeC:Ck:=⟨0,0,0⟩
def oneC:Ck:=⟨1,0,1⟩
def Ck.nil(k:Ck):Prop:=k.a=0/\k.b=0
def rayC(k:Ck):Ck:=⟨k.a.tdiv (Int.gcd k.a k.b),k.b.tdiv (Int.gcd k.a k.b),1⟩
structure isRay(k:Ck):Prop where
 g:Int.gcd k.a k.b=1
 d:k.d=1
 a1:-1000000000<=k.a
 a2:k.a<=1000000000
 b1:-1000000000<=k.b
 b2:k.b<=1000000000
theorem one_ray:isRay oneC:=⟨by decide,rfl,by decide,by decide,by decide,by decide⟩
theorem isRay.ok{k:Ck}(h:isRay k):k.ok:=by
 unfold Ck.ok;rw[okC_iff,h.d];have h1:=h.a1;have h2:=h.a2;have h3:=h.b1;have h4:=h.b2;have:Int.gcd (Int.gcd k.a k.b) 1=1:=by rw[h.g];rfl
 omega
theorem isRay.nz{k:Ck}(h:isRay k):¬k.nil:=fun q=>by
 have:=h.g;rw[q.1,q.2]at this;exact absurd this (by decide)
theorem isRay.ray{k:Ck}(h:isRay k):rayC k=k:=by
 unfold rayC;rw[h.g];obtain⟨a,b,d⟩:=k;have:=h.d;simp only at this;subst this;simp
theorem gcd_nz{a b:Int}(h:¬(a=0/\b=0)):0<Int.gcd a b:=by
 rcases Nat.eq_zero_or_pos (Int.gcd a b)with q|q
 ·exact absurd (Int.gcd_eq_zero_iff.1 q) h
 ·exact q
theorem ray_is{a b d:Int}(h1:-1000000000<=a)(h2:a<=1000000000)(h3:-1000000000<=b)(h4:b<=1000000000)(hz:¬(a=0/\b=0)):isRay (rayC ⟨a,b,d⟩):=by
 have g0:=gcd_nz hz;have e1:=Int.natAbs_tdiv_le_natAbs a (Int.gcd a b);have e2:=Int.natAbs_tdiv_le_natAbs b (Int.gcd a b);refine⟨?_,rfl,?_,?_,?_,?_⟩
 ·show Int.gcd (a.tdiv (Int.gcd a b)) (b.tdiv (Int.gcd a b))=1
  have q1:=Int.tdiv_mul_cancel (Int.gcd_dvd_left a b);have q2:=Int.tdiv_mul_cancel (Int.gcd_dvd_right a b);generalize a.tdiv (Int.gcd a b)=x at *;generalize b.tdiv (Int.gcd a b)=y at *;have q3:Int.gcd (x*(Int.gcd a b:Nat)) (y*(Int.gcd a b:Nat))=Int.gcd a b:=by rw[q1,q2]
  rw[Int.gcd_mul_right]at q3;have q4:((Int.gcd a b:Nat):Int).natAbs=Int.gcd a b:=by omega
  rw[q4]at q3;have:Int.gcd x y*Int.gcd a b=1*Int.gcd a b:=by omega
  exact Nat.eq_of_mul_eq_mul_right g0 this
 all_goals (simp only[rayC];omega)
theorem rayC_is{k:Ck}(h:k.ok)(hz:¬k.nil):isRay (rayC k):=by
 have h':=(okC_iff _ _ _).1 h;exact ray_is h'.2.2.1 h'.2.2.2.1 h'.2.2.2.2.1 h'.2.2.2.2.2.1 hz
def mulR(p r:Ck):Int:=p.a*r.a-p.b*r.b
def mulI(p r:Ck):Int:=p.a*r.b+p.b*r.a
def fitM(p r:Ck):Prop:=-1000000000<=mulR p r/\mulR p r<=1000000000/\-1000000000<=mulI p r/\mulI p r<=1000000000
instance(p r:Ck):Decidable (fitM p r):=by unfold fitM;infer_instance
def turnC(p r:Ck):Option Ck:=if fitM p r then some (rayC ⟨mulR p r,mulI p r,1⟩)else none
theorem sq_pos'{a b:Int}(h:a*a+b*b=0):a=0/\b=0:=by
 have h1:0<=a*a:=by rcases Int.le_total 0 a with q|q;exact Int.mul_nonneg q q;exact Int.mul_nonneg_of_nonpos_of_nonpos q q
 have h2:0<=b*b:=by rcases Int.le_total 0 b with q|q;exact Int.mul_nonneg q q;exact Int.mul_nonneg_of_nonpos_of_nonpos q q
 have e1:a*a=0:=by omega
 have e2:b*b=0:=by omega
 rw[Int.mul_eq_zero]at e1 e2;omega
theorem mul_nz{p r:Ck}(hp:¬p.nil)(hr:¬r.nil):¬(mulR p r=0/\mulI p r=0):=by
 intro h;have e:mulR p r*mulR p r+mulI p r*mulI p r=(p.a*p.a+p.b*p.b)*(r.a*r.a+r.b*r.b):=by unfold mulR mulI;grind
 rw[h.1,h.2]at e;have e':(p.a*p.a+p.b*p.b)*(r.a*r.a+r.b*r.b)=0:=by omega
 rcases Int.mul_eq_zero.1 e' with q|q
 ·exact hp (sq_pos' q)
 ·exact hr (sq_pos' q)
theorem turn_is{p r q:Ck}(hp:isRay p)(hr:isRay r)(h:turnC p r=some q):isRay q:=by
 unfold turnC at h;by_cases c:fitM p r
 ·rw[if_pos c]at h
  obtain rfl:=Option.some.inj h;obtain⟨c1,c2,c3,c4⟩:=c;exact ray_is c1 c2 c3 c4 (mul_nz hp.nz hr.nz)
 ·rw[if_neg c]at h;cases h
theorem turn_one{r:Ck}(hr:isRay r):turnC oneC r=some r:=by
 have e1:mulR oneC r=r.a:=by unfold mulR oneC;simp
 have e2:mulI oneC r=r.b:=by unfold mulI oneC;simp
 unfold turnC;rw[if_pos (by unfold fitM;rw[e1,e2];exact⟨hr.a1,hr.a2,hr.b1,hr.b2⟩),e1,e2];have:=hr.ray;rw[show(⟨r.a,r.b,1⟩:Ck)=r by have:=hr.d;obtain⟨a,b,d⟩:=r;simp only at this;rw[this]];rw[this]
theorem mul_turn{p r:Ck}(hp:isRay p)(hr:isRay r){u v w e:Int}(h:OpC Cq.mul p.a p.b p.d r.a r.b r.d u v w e) :
  (fitM p r/\e=0/\u=mulR p r/\v=mulI p r/\w=1)\/(¬fitM p r/\e=16/\u=0/\v=0/\w=0):=by
 have one:∀{k:Ck},isRay k->isC k.a k.b k.d ⟨k.a,k.b⟩:=fun {k} hk=>by
  have g1:Int.gcd (Int.gcd k.a k.b) 1=1:=by rw[hk.g];rfl
  rw[hk.d];exact⟨by omega,by omega,hk.a1,hk.a2,hk.b1,hk.b2,g1,by simp,by simp⟩
 have ho:=h.is (one hp) (one hr);have ev:Cq.mul ⟨p.a,p.b⟩ ⟨r.a,r.b⟩=⟨((mulR p r:Int):Rat),((mulI p r:Int):Rat)⟩:=by
  unfold Cq.mul mulR mulI;simp only[Rat.intCast_sub,Rat.intCast_add,Rat.intCast_mul]
 rw[ev]at ho;by_cases c:fitM p r
 ·refine .inl ⟨c,?_⟩
  obtain⟨c1,c2,c3,c4⟩:=c;have hz:isC (mulR p r) (mulI p r) 1 ⟨((mulR p r:Int):Rat),((mulI p r:Int):Rat)⟩:=⟨by omega,by omega,c1,c2,c3,c4,by simp,by simp,by simp⟩;rcases ho with ⟨k,ke⟩|⟨k,_⟩
  ·obtain⟨e1,e2,e3⟩:=k.trip hz
   exact⟨ke,e1,e2,e3⟩
  ·exact absurd hz (k _ _ _)
 ·refine .inr ⟨c,?_⟩
  rcases ho with ⟨k,ke⟩|⟨_,k1,k2,k3,k4⟩
  ·exfalso
   have r1:=k.re;have r2:=k.im;simp only at r1 r2;have s1:u=mulR p r*w:=Rat.intCast_inj.1 (by rw[Rat.intCast_mul];exact r1);have s2:v=mulI p r*w:=Rat.intCast_inj.1 (by rw[Rat.intCast_mul];exact r2);have big:∀x:Int,-1000000000<=x*w->x*w<=1000000000->-1000000000<=x/\x<=1000000000:=fun x q1 q2=>by
    have w1:=k.d1;have:x.natAbs*1<=x.natAbs*w.natAbs:=Nat.mul_le_mul_left _ (by omega);rw[<-Int.natAbs_mul]at this;omega
   have t1:=big (mulR p r) (by rw[<-s1];exact k.a1) (by rw[<-s1];exact k.a2);have t2:=big (mulI p r) (by rw[<-s2];exact k.b1) (by rw[<-s2];exact k.b2);exact c ⟨t1.1,t1.2,t2.1,t2.2⟩
  ·exact⟨k4,k1,k2,k3⟩
def trnF:Ck->List Ck->Option Ck
 |p,[]=>some p
 |p,v :: vs=>match turnC p (rayC v)with
  |none=>none
  |some q=>trnF q vs
def stepP(c:List Int)(k:Int):F2:=⟨gt c k,nxC c k⟩
def sps(c:List Int):List F2:=(List.range c.length).map fun k:Nat=>stepP c k
def vis1(l:List Vk)(p:F2):Ck:=(fv l p.n p.d).getD zeC
def vsF(l:List Vk)(c:List Int):List Ck:=(sps c).map (vis1 l)
theorem sps_len(c:List Int):(sps c).length=c.length:=by unfold sps;simp
theorem vsF_len(l:List Vk)(c:List Int):(vsF l c).length=c.length:=by unfold vsF;rw[List.length_map,sps_len]
theorem gt_sps(c:List Int){k:Int}(h0:0<=k)(h1:k<c.length):gt (sps c) k=stepP c k:=by
 unfold gt sps;rw[List.getD_eq_getElem?_getD,List.getElem?_map,List.getElem?_range (by omega)];show stepP c (k.toNat:Nat)=_;rw[show((k.toNat:Nat):Int)=k by omega]
inductive PhO(l:List Vk)(c:List Int):Ck->Int->Prop
 |bad {e:Int} (h0:e≠0) (h:CkR l e):PhO l c zeC e
 |arg (h:CkR l 0) (h1:¬circle c):PhO l c zeC 2
 |no (h:CkR l 0) (h1:circle c) (h2:∃p∈sps c,fv l p.n p.d=none):PhO l c zeC 6
 |zero (h:CkR l 0) (h1:circle c) (h2:∀p∈sps c,fv l p.n p.d≠none) (h3:∃v∈vsF l c,v.nil):PhO l c zeC 18
 |range (h:CkR l 0) (h1:circle c) (h2:∀p∈sps c,fv l p.n p.d≠none) (h3:∀v∈vsF l c,¬v.nil) (h4:trnF oneC (vsF l c)=none):PhO l c zeC 16
 |ok {p:Ck} (h:CkR l 0) (h1:circle c) (h2:∀p∈sps c,fv l p.n p.d≠none) (h3:∀v∈vsF l c,¬v.nil) (h4:trnF oneC (vsF l c)=some p):PhO l c p 0
theorem PhO.uniq{l:List Vk}{c:List Int}{p q:Ck}{e f:Int}(h:PhO l c p e)(k:PhO l c q f):p=q/\e=f:=by
 cases h with
 |bad h0 h=>cases k with
  |bad _ k=>exact⟨rfl,h.uniq k⟩
  |_ k=>exact absurd (h.uniq k) h0
 |arg h h1=>cases k with
  |bad h0 k=>exact absurd (k.uniq h) h0
  |arg _ _=>exact⟨rfl,rfl⟩
  |_ _ k1=>exact absurd k1 h1
 |no h h1 h2=>cases k with
  |bad h0 k=>exact absurd (k.uniq h) h0
  |arg _ k1=>exact absurd h1 k1
  |no _ _ _=>exact⟨rfl,rfl⟩
  |_ _ _ k2=>obtain⟨s,s1,s2⟩:=h2;exact absurd s2 (k2 s s1)
 |zero h h1 h2 h3=>cases k with
  |bad h0 k=>exact absurd (k.uniq h) h0
  |arg _ k1=>exact absurd h1 k1
  |no _ _ k2=>obtain⟨s,s1,s2⟩:=k2;exact absurd s2 (h2 s s1)
  |zero _ _ _ _=>exact⟨rfl,rfl⟩
  |_ _ _ _ k3=>obtain⟨s,s1,s2⟩:=h3;exact absurd s2 (k3 s s1)
 |range h h1 h2 h3 h4=>cases k with
  |bad h0 k=>exact absurd (k.uniq h) h0
  |arg _ k1=>exact absurd h1 k1
  |no _ _ k2=>obtain⟨s,s1,s2⟩:=k2;exact absurd s2 (h2 s s1)
  |zero _ _ _ k3=>obtain⟨s,s1,s2⟩:=k3;exact absurd s2 (h3 s s1)
  |range _ _ _ _ _=>exact⟨rfl,rfl⟩
  |ok _ _ _ _ k4=>rw[h4]at k4;cases k4
 |ok h h1 h2 h3 h4=>cases k with
  |bad h0 k=>exact absurd (k.uniq h) h0
  |arg _ k1=>exact absurd h1 k1
  |no _ _ k2=>obtain⟨s,s1,s2⟩:=k2;exact absurd s2 (h2 s s1)
  |zero _ _ _ k3=>obtain⟨s,s1,s2⟩:=k3;exact absurd s2 (h3 s s1)
  |range _ _ _ _ k4=>rw[h4]at k4;cases k4
  |ok _ _ _ _ k4=>rw[h4]at k4;exact⟨Option.some.inj k4,rfl⟩
theorem trnF_ray{l:List Vk}:∀{vs:List Ck} {p q:Ck},isRay p->(∀v∈vs,v.ok)->(∀v∈vs,¬v.nil)->trnF p vs=some q->isRay q
 | [],p,q,hp,_,_,h=>by obtain rfl:=Option.some.inj h;exact hp
 |v :: vs,p,q,hp,hk,hz,h=>by
  unfold trnF at h;cases ht:turnC p (rayC v)with
  |none=>rw[ht]at h;cases h
  |some r=>
   rw[ht]at h;exact trnF_ray (l:=l) (turn_is hp (rayC_is (hk v (List.mem_cons_self ..)) (hz v (List.mem_cons_self ..))) ht) (fun v hv=>hk v (List.mem_cons_of_mem _ hv)) (fun v hv=>hz v (List.mem_cons_of_mem _ hv)) h
theorem vsF_ok{l:List Vk}(hk:∀v∈l,okV v){c:List Int}(h2:∀p∈sps c,fv l p.n p.d≠none):∀v∈vsF l c,v.ok:=by
 intro v hv;obtain⟨p,hp,rfl⟩:=List.mem_map.1 hv;cases hf:fv l p.n p.d with
 |none=>exact absurd hf (h2 p hp)
 |some k=>unfold vis1;rw[hf];exact fv_ok hk hf
theorem PhO.ray{l:List Vk}{c:List Int}{p:Ck}(h:PhO l c p 0):isRay p:=by
 cases h with
 |bad h0 _=>exact absurd rfl h0
 |ok h h1 h2 h3 h4=>exact trnF_ray (l:=l) one_ray (vsF_ok h.ok0.2.1 h2) h3 h4
