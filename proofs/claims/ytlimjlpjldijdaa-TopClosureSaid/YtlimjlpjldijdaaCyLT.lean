import Derived.Test.YtlimjlpjldijdaaCyRy
import Derived.Test.YtlimjlpjldijdaaCySt
import Derived.Test.YtlimjlpjldijdaaCyK
import Derived.Test.YtlimjlpjldijdaaCxM
import Derived.Test.YtlimjlpjldijdaaSymSlc
set_option linter.unusedSimpArgs false
set_option linter.unusedVariables false
namespace Go.Proofs.Ytlimjlpjldijdaa
open Go.Sim
set_option maxRecDepth 100000
theorem pr_inj:∀{l:List Vk},(l.map Vk.pr).Nodup->∀{v w:Vk},v∈l->w∈l->v.pr=w.pr->v=w
 | [],_,v,w,hv,_,_=>by cases hv
 |u :: l,hd,v,w,hv,hw,e=>by
  rw[List.map_cons,List.nodup_cons]at hd;rcases List.mem_cons.1 hv with e1|hv1
  ·rcases List.mem_cons.1 hw with e2|hw1
   ·rw[e1,e2]
   ·subst e1;exact absurd (by rw[e];exact List.mem_map_of_mem hw1) hd.1
  ·rcases List.mem_cons.1 hw with e2|hw1
   ·subst e2;exact absurd (by rw[<-e];exact List.mem_map_of_mem hv1) hd.1
   ·exact pr_inj hd.2 hv1 hw1 e
def hitV(x y:Int)(v:Vk):Bool:=decide ((v.i=x/\v.j=y)\/(v.i=y/\v.j=x))
def fv(l:List Vk)(x y:Int):Option Ck:=
 match l.find? (hitV x y)with
 |none=>none
 |some v=>some (if v.i=x then⟨v.re,v.im,v.den⟩else⟨v.re,-v.im,v.den⟩)
theorem fv_none{l:List Vk}{x y:Int}:fv l x y=none↔∀v∈l,¬(v.i=x/\v.j=y)/\¬(v.i=y/\v.j=x):=by
 unfold fv;constructor
 ·intro h v hv
  cases hf:l.find? (hitV x y)with
  |some w=>rw[hf]at h;cases h
  |none=>
   have:=List.find?_eq_none.1 hf v hv;unfold hitV at this;rw[decide_eq_true_iff]at this;exact⟨fun q=>this (.inl q),fun q=>this (.inr q)⟩
 ·intro h
  rw[List.find?_eq_none.2 (fun v hv=>by unfold hitV;rw[decide_eq_true_iff];exact fun q=>q.elim (h v hv).1 (h v hv).2)]
theorem fv_to{l:List Vk}(hk:∀v∈l,okV v)(hd:(l.map Vk.pr).Nodup){x y:Int}{v:Vk}(hv:v∈l)(h:v.i=x/\v.j=y):fv l x y=some ⟨v.re,v.im,v.den⟩:=by
 unfold fv;cases hf:l.find? (hitV x y)with
 |none=>exact absurd h ((fv_none (l:=l) (x:=x) (y:=y)).1 (by unfold fv;rw[hf]) v hv).1
 |some w=>
  have hw:=List.mem_of_find?_eq_some hf;have h2:=List.find?_some hf;unfold hitV at h2;rw[decide_eq_true_iff]at h2;have l1:=(hk v hv).2.1;have l2:=(hk w hw).2.1;rcases h2 with h2|h2
  ·rw[show w=v from pr_inj hd hw hv (by unfold Vk.pr;rw[h2.1,h2.2,h.1,h.2])]
   simp only[h.1,if_true]
  ·omega
theorem fv_back{l:List Vk}(hk:∀v∈l,okV v)(hd:(l.map Vk.pr).Nodup){x y:Int}{v:Vk}(hv:v∈l)(h:v.i=y/\v.j=x):fv l x y=some ⟨v.re,-v.im,v.den⟩:=by
 unfold fv;cases hf:l.find? (hitV x y)with
 |none=>exact absurd h ((fv_none (l:=l) (x:=x) (y:=y)).1 (by unfold fv;rw[hf]) v hv).2
 |some w=>
  have hw:=List.mem_of_find?_eq_some hf;have h2:=List.find?_some hf;unfold hitV at h2;rw[decide_eq_true_iff]at h2;have l1:=(hk v hv).2.1;have l2:=(hk w hw).2.1;rcases h2 with h2|h2
  ·omega
  ·rw[show w=v from pr_inj hd hw hv (by unfold Vk.pr;rw[h2.1,h2.2,h.1,h.2])]
   simp only[show ¬v.i=x by omega,if_false]
theorem okC_conj{a b d:Int}(h:okC a b d):okC a (-b) d:=by
 rw[okC_iff]at h ⊢;rw[Int.gcd_neg];omega
theorem fv_ok{l:List Vk}(hk:∀v∈l,okV v){x y:Int}{k:Ck}(h:fv l x y=some k):k.ok:=by
 unfold fv at h;cases hf:l.find? (hitV x y)with
 |none=>rw[hf]at h;cases h
 |some w=>
  rw[hf]at h;obtain rfl:=Option.some.inj h;have hw:=(hk w (List.mem_of_find?_eq_some hf)).2.2.2.2;unfold Ck.ok;split
  ·exact hw
  ·exact okC_conj hw
theorem FndO.is{l:List Vk}(hk:∀v∈l,okV v)(hd:(l.map Vk.pr).Nodup){x y u v w e:Int}(h:FndO l x y u v w e):(e=6/\fv l x y=none)\/(e=0/\fv l x y=some ⟨u,v,w⟩):=by
 cases h with
 |no h=>exact .inl ⟨rfl,fv_none.2 h⟩
 |to v hv h=>exact .inr ⟨rfl,fv_to hk hd hv h⟩
 |back v hv h=>exact .inr ⟨rfl,fv_back hk hd hv h⟩
def zeC:Ck:=⟨0,0,0⟩
def oneC:Ck:=⟨1,0,1⟩
def Ck.nil(k:Ck):Prop:=k.a=0/\k.b=0
def rayC(k:Ck):Ck:=⟨k.a.tdiv (Int.gcd k.a k.b),k.b.tdiv (Int.gcd k.a k.b),1⟩
structure isRay(k:Ck):Prop where
 g:Int.gcd k.a k.b=1
 d:k.d=1
 a1:-1000000000<=k.a
 a2:k.a<=1000000000
 b1:-1000000000<=k.b
 b2:k.b<=1000000000
theorem one_ray:isRay oneC:=⟨by decide,rfl,by decide,by decide,by decide,by decide⟩
theorem isRay.ok{k:Ck}(h:isRay k):k.ok:=by
 unfold Ck.ok;rw[okC_iff,h.d];have h1:=h.a1;have h2:=h.a2;have h3:=h.b1;have h4:=h.b2;have:Int.gcd (Int.gcd k.a k.b) 1=1:=by rw[h.g];rfl
 omega
theorem isRay.nz{k:Ck}(h:isRay k):¬k.nil:=fun q=>by
 have:=h.g;rw[q.1,q.2]at this;exact absurd this (by decide)
theorem isRay.ray{k:Ck}(h:isRay k):rayC k=k:=by
 unfold rayC;rw[h.g];obtain⟨a,b,d⟩:=k;have:=h.d;simp only at this;subst this;simp
theorem gcd_nz{a b:Int}(h:¬(a=0/\b=0)):0<Int.gcd a b:=by
 rcases Nat.eq_zero_or_pos (Int.gcd a b)with q|q
 ·exact absurd (Int.gcd_eq_zero_iff.1 q) h
 ·exact q
theorem ray_is{a b d:Int}(h1:-1000000000<=a)(h2:a<=1000000000)(h3:-1000000000<=b)(h4:b<=1000000000)(hz:¬(a=0/\b=0)):isRay (rayC ⟨a,b,d⟩):=by
 have g0:=gcd_nz hz;have e1:=Int.natAbs_tdiv_le_natAbs a (Int.gcd a b);have e2:=Int.natAbs_tdiv_le_natAbs b (Int.gcd a b);refine⟨?_,rfl,?_,?_,?_,?_⟩
 ·show Int.gcd (a.tdiv (Int.gcd a b)) (b.tdiv (Int.gcd a b))=1
  have q1:=Int.tdiv_mul_cancel (Int.gcd_dvd_left a b);have q2:=Int.tdiv_mul_cancel (Int.gcd_dvd_right a b);generalize a.tdiv (Int.gcd a b)=x at *;generalize b.tdiv (Int.gcd a b)=y at *;have q3:Int.gcd (x*(Int.gcd a b:Nat)) (y*(Int.gcd a b:Nat))=Int.gcd a b:=by rw[q1,q2]
  rw[Int.gcd_mul_right]at q3;have q4:((Int.gcd a b:Nat):Int).natAbs=Int.gcd a b:=by omega
  rw[q4]at q3;have:Int.gcd x y*Int.gcd a b=1*Int.gcd a b:=by omega
  exact Nat.eq_of_mul_eq_mul_right g0 this
 all_goals (simp only[rayC];omega)
theorem rayC_is{k:Ck}(h:k.ok)(hz:¬k.nil):isRay (rayC k):=by
 have h':=(okC_iff _ _ _).1 h;exact ray_is h'.2.2.1 h'.2.2.2.1 h'.2.2.2.2.1 h'.2.2.2.2.2.1 hz
def mulR(p r:Ck):Int:=p.a*r.a-p.b*r.b
def mulI(p r:Ck):Int:=p.a*r.b+p.b*r.a
def fitM(p r:Ck):Prop:=-1000000000<=mulR p r/\mulR p r<=1000000000/\-1000000000<=mulI p r/\mulI p r<=1000000000
instance(p r:Ck):Decidable (fitM p r):=by unfold fitM;infer_instance
def turnC(p r:Ck):Option Ck:=if fitM p r then some (rayC ⟨mulR p r,mulI p r,1⟩)else none
theorem sq_pos'{a b:Int}(h:a*a+b*b=0):a=0/\b=0:=by
 have h1:0<=a*a:=by rcases Int.le_total 0 a with q|q;exact Int.mul_nonneg q q;exact Int.mul_nonneg_of_nonpos_of_nonpos q q
 have h2:0<=b*b:=by rcases Int.le_total 0 b with q|q;exact Int.mul_nonneg q q;exact Int.mul_nonneg_of_nonpos_of_nonpos q q
 have e1:a*a=0:=by omega
 have e2:b*b=0:=by omega
 rw[Int.mul_eq_zero]at e1 e2;omega
theorem mul_nz{p r:Ck}(hp:¬p.nil)(hr:¬r.nil):¬(mulR p r=0/\mulI p r=0):=by
 intro h;have e:mulR p r*mulR p r+mulI p r*mulI p r=(p.a*p.a+p.b*p.b)*(r.a*r.a+r.b*r.b):=by unfold mulR mulI;grind
 rw[h.1,h.2]at e;have e':(p.a*p.a+p.b*p.b)*(r.a*r.a+r.b*r.b)=0:=by omega
 rcases Int.mul_eq_zero.1 e' with q|q
 ·exact hp (sq_pos' q)
 ·exact hr (sq_pos' q)
theorem turn_is{p r q:Ck}(hp:isRay p)(hr:isRay r)(h:turnC p r=some q):isRay q:=by
 unfold turnC at h;by_cases c:fitM p r
 ·rw[if_pos c]at h
  obtain rfl:=Option.some.inj h;obtain⟨c1,c2,c3,c4⟩:=c;exact ray_is c1 c2 c3 c4 (mul_nz hp.nz hr.nz)
 ·rw[if_neg c]at h;cases h
theorem turn_one{r:Ck}(hr:isRay r):turnC oneC r=some r:=by
 have e1:mulR oneC r=r.a:=by unfold mulR oneC;simp
 have e2:mulI oneC r=r.b:=by unfold mulI oneC;simp
 unfold turnC;rw[if_pos (by unfold fitM;rw[e1,e2];exact⟨hr.a1,hr.a2,hr.b1,hr.b2⟩),e1,e2];have:=hr.ray;rw[show(⟨r.a,r.b,1⟩:Ck)=r by have:=hr.d;obtain⟨a,b,d⟩:=r;simp only at this;rw[this]];rw[this]
theorem mul_turn{p r:Ck}(hp:isRay p)(hr:isRay r){u v w e:Int}(h:OpC Cq.mul p.a p.b p.d r.a r.b r.d u v w e) :
  (fitM p r/\e=0/\u=mulR p r/\v=mulI p r/\w=1)\/(¬fitM p r/\e=16/\u=0/\v=0/\w=0):=by
 have one:∀{k:Ck},isRay k->isC k.a k.b k.d ⟨k.a,k.b⟩:=fun {k} hk=>by
  have g1:Int.gcd (Int.gcd k.a k.b) 1=1:=by rw[hk.g];rfl
  rw[hk.d];exact⟨by omega,by omega,hk.a1,hk.a2,hk.b1,hk.b2,g1,by simp,by simp⟩
 have ho:=h.is (one hp) (one hr);have ev:Cq.mul ⟨p.a,p.b⟩ ⟨r.a,r.b⟩=⟨((mulR p r:Int):Rat),((mulI p r:Int):Rat)⟩:=by
  unfold Cq.mul mulR mulI;simp only[Rat.intCast_sub,Rat.intCast_add,Rat.intCast_mul]
 rw[ev]at ho;by_cases c:fitM p r
 ·refine .inl ⟨c,?_⟩
  obtain⟨c1,c2,c3,c4⟩:=c;have hz:isC (mulR p r) (mulI p r) 1 ⟨((mulR p r:Int):Rat),((mulI p r:Int):Rat)⟩:=⟨by omega,by omega,c1,c2,c3,c4,by simp,by simp,by simp⟩;rcases ho with ⟨k,ke⟩|⟨k,_⟩
  ·obtain⟨e1,e2,e3⟩:=k.trip hz
   exact⟨ke,e1,e2,e3⟩
  ·exact absurd hz (k _ _ _)
 ·refine .inr ⟨c,?_⟩
  rcases ho with ⟨k,ke⟩|⟨_,k1,k2,k3,k4⟩
  ·exfalso
   have r1:=k.re;have r2:=k.im;simp only at r1 r2;have s1:u=mulR p r*w:=Rat.intCast_inj.1 (by rw[Rat.intCast_mul];exact r1);have s2:v=mulI p r*w:=Rat.intCast_inj.1 (by rw[Rat.intCast_mul];exact r2);have big:∀x:Int,-1000000000<=x*w->x*w<=1000000000->-1000000000<=x/\x<=1000000000:=fun x q1 q2=>by
    have w1:=k.d1;have:x.natAbs*1<=x.natAbs*w.natAbs:=Nat.mul_le_mul_left _ (by omega);rw[<-Int.natAbs_mul]at this;omega
   have t1:=big (mulR p r) (by rw[<-s1];exact k.a1) (by rw[<-s1];exact k.a2);have t2:=big (mulI p r) (by rw[<-s2];exact k.b1) (by rw[<-s2];exact k.b2);exact c ⟨t1.1,t1.2,t2.1,t2.2⟩
  ·exact⟨k4,k1,k2,k3⟩
def trnF:Ck->List Ck->Option Ck
 |p,[]=>some p
 |p,v :: vs=>match turnC p (rayC v)with
  |none=>none
  |some q=>trnF q vs
def stepP(c:List Int)(k:Int):F2:=⟨gt c k,nxC c k⟩
def sps(c:List Int):List F2:=(List.range c.length).map fun k:Nat=>stepP c k
def vis1(l:List Vk)(p:F2):Ck:=(fv l p.n p.d).getD zeC
def vsF(l:List Vk)(c:List Int):List Ck:=(sps c).map (vis1 l)
theorem sps_len(c:List Int):(sps c).length=c.length:=by unfold sps;simp
theorem vsF_len(l:List Vk)(c:List Int):(vsF l c).length=c.length:=by unfold vsF;rw[List.length_map,sps_len]
theorem gt_sps(c:List Int){k:Int}(h0:0<=k)(h1:k<c.length):gt (sps c) k=stepP c k:=by
 unfold gt sps;rw[List.getD_eq_getElem?_getD,List.getElem?_map,List.getElem?_range (by omega)];show stepP c (k.toNat:Nat)=_;rw[show((k.toNat:Nat):Int)=k by omega]
inductive PhO(l:List Vk)(c:List Int):Ck->Int->Prop
 |bad {e:Int} (h0:e≠0) (h:CkR l e):PhO l c zeC e
 |arg (h:CkR l 0) (h1:¬circle c):PhO l c zeC 2
 |no (h:CkR l 0) (h1:circle c) (h2:∃p∈sps c,fv l p.n p.d=none):PhO l c zeC 6
 |zero (h:CkR l 0) (h1:circle c) (h2:∀p∈sps c,fv l p.n p.d≠none) (h3:∃v∈vsF l c,v.nil):PhO l c zeC 18
 |range (h:CkR l 0) (h1:circle c) (h2:∀p∈sps c,fv l p.n p.d≠none) (h3:∀v∈vsF l c,¬v.nil) (h4:trnF oneC (vsF l c)=none):PhO l c zeC 16
 |ok {p:Ck} (h:CkR l 0) (h1:circle c) (h2:∀p∈sps c,fv l p.n p.d≠none) (h3:∀v∈vsF l c,¬v.nil) (h4:trnF oneC (vsF l c)=some p):PhO l c p 0
theorem PhO.uniq{l:List Vk}{c:List Int}{p q:Ck}{e f:Int}(h:PhO l c p e)(k:PhO l c q f):p=q/\e=f:=by
 cases h with
 |bad h0 h=>cases k with
  |bad _ k=>exact⟨rfl,h.uniq k⟩
  |_ k=>exact absurd (h.uniq k) h0
 |arg h h1=>cases k with
  |bad h0 k=>exact absurd (k.uniq h) h0
  |arg _ _=>exact⟨rfl,rfl⟩
  |_ _ k1=>exact absurd k1 h1
 |no h h1 h2=>cases k with
  |bad h0 k=>exact absurd (k.uniq h) h0
  |arg _ k1=>exact absurd h1 k1
  |no _ _ _=>exact⟨rfl,rfl⟩
  |_ _ _ k2=>obtain⟨s,s1,s2⟩:=h2;exact absurd s2 (k2 s s1)
 |zero h h1 h2 h3=>cases k with
  |bad h0 k=>exact absurd (k.uniq h) h0
  |arg _ k1=>exact absurd h1 k1
  |no _ _ k2=>obtain⟨s,s1,s2⟩:=k2;exact absurd s2 (h2 s s1)
  |zero _ _ _ _=>exact⟨rfl,rfl⟩
  |_ _ _ _ k3=>obtain⟨s,s1,s2⟩:=h3;exact absurd s2 (k3 s s1)
 |range h h1 h2 h3 h4=>cases k with
  |bad h0 k=>exact absurd (k.uniq h) h0
  |arg _ k1=>exact absurd h1 k1
  |no _ _ k2=>obtain⟨s,s1,s2⟩:=k2;exact absurd s2 (h2 s s1)
  |zero _ _ _ k3=>obtain⟨s,s1,s2⟩:=k3;exact absurd s2 (h3 s s1)
  |range _ _ _ _ _=>exact⟨rfl,rfl⟩
  |ok _ _ _ _ k4=>rw[h4]at k4;cases k4
 |ok h h1 h2 h3 h4=>cases k with
  |bad h0 k=>exact absurd (k.uniq h) h0
  |arg _ k1=>exact absurd h1 k1
  |no _ _ k2=>obtain⟨s,s1,s2⟩:=k2;exact absurd s2 (h2 s s1)
  |zero _ _ _ k3=>obtain⟨s,s1,s2⟩:=k3;exact absurd s2 (h3 s s1)
  |range _ _ _ _ k4=>rw[h4]at k4;cases k4
  |ok _ _ _ _ k4=>rw[h4]at k4;exact⟨Option.some.inj k4,rfl⟩
theorem trnF_ray{l:List Vk}:∀{vs:List Ck} {p q:Ck},isRay p->(∀v∈vs,v.ok)->(∀v∈vs,¬v.nil)->trnF p vs=some q->isRay q
 | [],p,q,hp,_,_,h=>by obtain rfl:=Option.some.inj h;exact hp
 |v :: vs,p,q,hp,hk,hz,h=>by
  unfold trnF at h;cases ht:turnC p (rayC v)with
  |none=>rw[ht]at h;cases h
  |some r=>
   rw[ht]at h;exact trnF_ray (l:=l) (turn_is hp (rayC_is (hk v (List.mem_cons_self ..)) (hz v (List.mem_cons_self ..))) ht) (fun v hv=>hk v (List.mem_cons_of_mem _ hv)) (fun v hv=>hz v (List.mem_cons_of_mem _ hv)) h
theorem vsF_ok{l:List Vk}(hk:∀v∈l,okV v){c:List Int}(h2:∀p∈sps c,fv l p.n p.d≠none):∀v∈vsF l c,v.ok:=by
 intro v hv;obtain⟨p,hp,rfl⟩:=List.mem_map.1 hv;cases hf:fv l p.n p.d with
 |none=>exact absurd hf (h2 p hp)
 |some k=>unfold vis1;rw[hf];exact fv_ok hk hf
theorem PhO.ray{l:List Vk}{c:List Int}{p:Ck}(h:PhO l c p 0):isRay p:=by
 cases h with
 |bad h0 _=>exact absurd rfl h0
 |ok h h1 h2 h3 h4=>exact trnF_ray (l:=l) one_ray (vsF_ok h.ok0.2.1 h2) h3 h4
end Go.Proofs.Ytlimjlpjldijdaa
namespace Go.Proofs.Ytlimjlpjldijdaa
open Go.Sim
set_option maxRecDepth 100000
theorem TC2:SliceT Try.prog 23 30 3:=⟨by kernel_rfl,by kernel_rfl,⟨24,by kernel_rfl,by omega⟩,⟨.agg #[.int .i64 0,.int .i64 0,.int .i64 0],by kernel_rfl,rfl⟩⟩
theorem TS2:SliceT Try.prog 74 75 2:=⟨by kernel_rfl,by kernel_rfl,⟨16,by kernel_rfl,by omega⟩,⟨.agg #[.int .i64 0,.int .i64 0],by kernel_rfl,rfl⟩⟩
variable{F:Prims}{call head arith cmp scmp bnot bsame conv neg imax imin ofNat slen place inR nz geZ rd wr push next mkOK nat zeros sadd eqAgg cut slc sslc strAt part app cpy putAt fresh lowered bump wrote addN lt ne fpAll fpApp brk yn rng mget mput mnew bytes clr mrng ment:_}(hA:AP F ⟨call,head,arith,cmp,scmp,bnot,bsame,conv,neg,imax,imin,ofNat,slen,place,inR,nz,geZ,rd,wr,push,next,mkOK,nat,zeros,sadd,eqAgg,cut,slc,sslc,strAt,part,app,cpy,putAt,fresh,lowered,bump,wrote,addN,lt,ne,fpAll,fpApp,brk,yn,rng,mget,mput,mnew,bytes,clr,mrng,ment⟩)
include hA
theorem cray_is{h:AHeap}(hlow:h.low<=h.next){k:Ck}(hk:k.ok)(hz:¬k.nil){Q:Value->AHeap->Prop}
  (hQ:∀r h',r=rayC k->Ext h h'->Q (.tuple #[.agg #[.int .i64 r.a,.int .i64 r.b,.int .i64 r.d],.int .i64 0]) h'):call 32 [.agg #[.int .i64 k.a,.int .i64 k.b,.int .i64 k.d]] h Q:=
 cray_ok hA hlow hk (fun q=>absurd q hz) (fun _ h' x=>hQ _ h' rfl x)
theorem cmul_is{h:AHeap}(hlow:h.low<=h.next){p r:Ck}(hp:isRay p)(hr:isRay r){Q:Value->AHeap->Prop}
  (hno:∀h',turnC p r=none->Ext h h'->Q (.tuple #[.agg #[.int .i64 0,.int .i64 0,.int .i64 0],.int .i64 16]) h')
  (hok:∀k h',k.ok->¬k.nil->turnC p r=some (rayC k)->isRay (rayC k)->Ext h h'->Q (.tuple #[.agg #[.int .i64 k.a,.int .i64 k.b,.int .i64 k.d],.int .i64 0]) h'):call 21 [.agg #[.int .i64 p.a,.int .i64 p.b,.int .i64 p.d],.agg #[.int .i64 r.a,.int .i64 r.b,.int .i64 r.d]] h Q:=by
 refine cmul_ok hA hlow (fun u v w e h' ho x=>?_);rcases mul_turn hp hr ho with ⟨c,rfl,rfl,rfl,rfl⟩|⟨c,rfl,rfl,rfl,rfl⟩
 ·have et:turnC p r=some (rayC ⟨mulR p r,mulI p r,1⟩):=by unfold turnC;rw[if_pos c]
  have hz:=mul_nz hp.nz hr.nz;refine hok ⟨mulR p r,mulI p r,1⟩ h' ?_ hz et (turn_is hp hr et) x;obtain⟨c1,c2,c3,c4⟩:=c;exact(okC_iff _ _ _).2 ⟨Int.le_refl 1,by show(1:Int)<=1000000000;omega,c1,c2,c3,c4,by simp⟩
 ·exact hno h' (by unfold turnC;rw[if_neg c]) x
theorem turned_ok{h:AHeap}(hlow:h.low<=h.next){p v:Ck}(hp:isRay p)(hv:v.ok)(hz:¬v.nil){Q:Value->AHeap->Prop}
  (hno:∀h',turnC p (rayC v)=none->Ext h h'->Q (.tuple #[.agg #[.int .i64 0,.int .i64 0,.int .i64 0],.int .i64 16]) h')
  (hok:∀q h',turnC p (rayC v)=some q->isRay q->Ext h h'->Q (.tuple #[.agg #[.int .i64 q.a,.int .i64 q.b,.int .i64 q.d],.int .i64 0]) h'):call 37 [.agg #[.int .i64 p.a,.int .i64 p.b,.int .i64 p.d],.agg #[.int .i64 v.a,.int .i64 v.b,.int .i64 v.d]] h Q:=by
 refine hA.bodyR Try.func37 r37_ok (hA.alike _ _ _ rfl) hlow (zc ?_);refine cray_is hA hlow hv hz (fun r h1 hr x1=>⟨_,_,_,_,rfl,?_⟩);refine zc ?_;rw[<-hr]at hno hok;have rr:isRay r:=by rw[hr];exact rayC_is hv hz
 refine br False (by rw[e_neq hA];rfl) (fun q=>q.elim) (fun _=>?_)<;>refine zc ?_;refine cmul_is hA (x1.lowOK hlow) hp rr (fun h2 t x2=>?_) (fun k h2 hk hkz t tr x2=>?_)
 ·refine⟨_,_,_,_,rfl,?_⟩
  refine zc ?_;refine br True (by rw[e_neq hA];rfl) (fun _=>?_) (fun q=>absurd trivial q)<;>refine zc ?_;exact hno h2 t (x1.trans x2)
 ·refine⟨_,_,_,_,rfl,?_⟩
  refine zc ?_;refine br False (by rw[e_neq hA];rfl) (fun q=>q.elim) (fun _=>?_)<;>refine zc ?_;have x12:=x1.trans x2;refine cray_is hA (x12.lowOK hlow) hk hkz (fun q h3 hq x3=>⟨_,_,_,_,rfl,?_⟩);refine zc ?_;rw[<-hq]at t tr;exact hok q h3 t tr (x12.trans x3)
theorem al_loop1{h0:AHeap}(hlow0:h0.low<=h0.next){a:Option Addr}{n c:Nat}{l:List Vk}(hl:Vs h0 a n l)(hn:n<=1000)(hv:∀v∈l,okV v)(hd:(l.map Vk.pr).Nodup){sa:Option Addr}{ns sc:Nat}{S:List F2}(hS:Rows F2.cells 2 h0 sa ns S)(hns:ns<=1000){N:Int}(hN:N=ns){Q:Exit->SS->Prop}
  (hno:∀h',(∃p∈S,fv l p.n p.d=none)->Ext h0 h'->∀e kn K,Q .ret ⟨(5,.int .i64 6) :: (4,.slice none 0 0) :: e,kn,K,h'⟩)
  (hok:∀h' a' c',(∀p∈S,fv l p.n p.d≠none)->Apd h' 3 a' ns c' ((S.map (vis1 l)).flatMap Ck.cells)->From h0.next a'->Ext h0 h'->Q (.exit 0) ⟨[(6,.slice a' ns c')],0,[],h'⟩) :
  ∀(m:Nat) (i:Int) (k:Nat) (h:AHeap) (a':Option Addr) (c':Nat),(ns-i).toNat<=m->0<=i->i<=ns->(k:Int)=i->(∀p∈S.take i.toNat,fv l p.n p.d≠none)->Apd h 3 a' k c' (((S.map (vis1 l)).take i.toNat).flatMap Ck.cells)->From h0.next a'->Ext h0 h->
   head 36 3 0 ⟨[(0,.slice a n c),(6,.slice a' k c'),(13,.slice sa ns sc),(14,.int .i64 N),(15,.int .i64 i)],0,[],h⟩ Q:=by
 have hlen:=hS.len;refine upTo (fun m ih=>?_);intro i k h a' c' hm i0 i1 hk hp hap hf he;by_cases ci:i<ns
 rotate_left
 ·obtain rfl:k=ns:=by omega
  refine hA.roundR Try.func36 r36_ok (zc ?_);refine br (i<N) (by rw[e_lss hA]) (fun c1=>by omega) (fun c1=>?_)<;>refine zc ?_;rw[List.take_of_length_le (by rw[List.length_map];omega)]at hap;rw[List.take_of_length_le (by omega)]at hp;exact hok h a' c' hp hap hf he
 obtain⟨m,rfl⟩:∃k,m=k+1:=⟨m-1,by omega⟩
 replace ih:=ih m rfl
 obtain⟨bb,o,x,y,rfl,hbb,hgt,r1,_⟩:=fr_at (hS.ext he) (i:=i) i0 ci;have q1:=rd_ok hA r1;have e2:arith .add .i64 i 1=i+1:=add64 hA (by omega) (by omega);have htk:=gt_take S i0 (by omega);rw[hgt]at htk;have hmem:(⟨x,y⟩:F2)∈S:=by rw[<-hgt];exact gt_mem S i0 (by omega)
 refine hA.roundR Try.func36 r36_ok (zc ?_);refine br (i<N) (by rw[e_lss hA]) (fun c1=>?_) (fun c1=>by omega)<;>refine zc ?_;refine zq ?_;simp only[e_next hA,e_push hA];have e1:=Ext.push h 2 [Value.int .i64 0,Value.int .i64 0];have o1:=Own.push h 2 [Value.int .i64 0,Value.int .i64 0];have n1:(h.push 2 [Value.int .i64 0,Value.int .i64 0]).next=h.next+1:=rfl;generalize h.push 2 [Value.int .i64 0,Value.int .i64 0]=h1 at *;obtain⟨b,hb⟩:∃v,v=h.next:=⟨_,rfl⟩;rw[<-hb]at o1 n1 ⊢;obtain⟨h2,w2,o2,k2⟩:=o1.write (o:=0) (vs:=[.int .i64 x,.int .i64 y]) (by simp);have o2':Own h2 b 2 [.int .i64 x,.int .i64 y]:=o2;have hen:=he.next;have x2:Ext h0 h2:=k2.ext (he.trans e1) (by omega);have xh2:Ext h h2:=k2.ext e1 (by omega);refine⟨h2,wr_at hA w2,?_⟩;have p0:rd h2 b (place 0 0 1) 1 [.int .i64 x]:=rd_ok hA (o2'.readG (o:=0) (n:=1) (by simp));have p1:rd h2 b (place 0 1 1) 1 [.int .i64 y]:=rd_ok hA (o2'.readG (o:=1) (n:=1) (by simp));refine zq ?_;refine cfind_ok hA (x2.lowOK hlow0) (hl.ext x2) hn hv (fun h3 u v w e fo x3=>?_);refine⟨_,_,_,_,rfl,?_⟩;have fi:=fo.is hv hd;refine zc ?_;refine br (e≠0) (by rw[e_neq hA]) (fun c2=>?_) (fun c2=>?_)<;>refine zc ?_
 ·rcases fi with ⟨rfl,f0⟩|⟨rfl,_⟩
  ·exact hno h3 ⟨_,hmem,f0⟩ (x2.trans x3) _ _ _
  ·exact absurd rfl c2
 have f1:fv l x y=some ⟨u,v,w⟩:=by
  rcases fi with ⟨rfl,f0⟩|⟨rfl,f1⟩
  ·exact absurd (by omega) c2
  ·exact f1
 have x23:=x2.trans x3;have xa:=xh2.trans x3;refine appR_ok hA TC2 ck_len (by omega) ck_ok (v:=⟨u,v,w⟩) (hap.ext xa) (by omega) (fun a2 c2' h4 hp2 hx=>?_);obtain⟨x4,hf4⟩:=hx h0 x23 hf;refine zc ?_;rw[e2];refine ih (i+1) (k+1) h4 a2 c2' (by omega) (by omega) (by omega) (by omega) ?_ ?_ hf4 x4
 ·rw[htk]
  intro p hp';rcases List.mem_append.1 hp' with z|z
  ·exact hp p z
  ·rw[List.mem_singleton.1 z,f1];exact fun q=>by cases q
 ·rw[gt_take (S.map (vis1 l)) i0 (by rw[List.length_map];omega),gt_map (vis1 l) S i0 (by omega),hgt]
  have:vis1 l ⟨x,y⟩=⟨u,v,w⟩:=by unfold vis1;rw[f1];rfl
  rw[this];exact hp2
theorem al_loop2{h0:AHeap}(hlow0:h0.low<=h0.next){a:Option Addr}{n c:Nat}{V:List Ck}(hl:Cs h0 a n V)(hn:n<=1000){N:Int}(hN:N=n){Q:Exit->SS->Prop}
  (hz:∀h',(∃v∈V,v.nil)->Ext h0 h'->∀e kn K,Q .ret ⟨(5,.int .i64 18) :: (4,.slice none 0 0) :: e,kn,K,h'⟩)
  (hok:∀h',(∀v∈V,¬v.nil)->Ext h0 h'->Q (.exit 2) ⟨[(6,.slice a n c)],0,[],h'⟩) :
  ∀(m:Nat) (i:Int) (h:AHeap),(n-i).toNat<=m->0<=i->i<=n->(∀v∈V.take i.toNat,¬v.nil)->Ext h0 h->
   head 36 11 0 ⟨[(6,.slice a n c),(36,.slice a n c),(37,.int .i64 N),(38,.int .i64 i)],0,[],h⟩ Q:=by
 have hlen:=hl.len;refine upTo (fun m ih=>?_);intro i h hm i0 i1 hp he;by_cases ci:i<n
 rotate_left
 ·refine hA.roundR Try.func36 r36_ok (zc ?_)
  refine br (i<N) (by rw[e_lss hA]) (fun c1=>by omega) (fun c1=>?_)<;>refine zc ?_;rw[List.take_of_length_le (by omega)]at hp;exact hok h hp he
 obtain⟨m,rfl⟩:∃k,m=k+1:=⟨m-1,by omega⟩
 replace ih:=ih m rfl
 obtain⟨bb,o,u,v,w,rfl,hbb,hgt,r1⟩:=cs_at (hl.ext he) (i:=i) i0 ci;have q1:=rd_ok hA r1;have e2:arith .add .i64 i 1=i+1:=add64 hA (by omega) (by omega);have htk:=gt_take V i0 (by omega);rw[hgt]at htk;have hmem:(⟨u,v,w⟩:Ck)∈V:=by rw[<-hgt];exact gt_mem V i0 (by omega)
 refine hA.roundR Try.func36 r36_ok (zc ?_);refine br (i<N) (by rw[e_lss hA]) (fun c1=>?_) (fun c1=>by omega)<;>refine zc ?_;refine zq ?_;have nxt:¬(u=0/\v=0)->∀x∈V.take (i+1).toNat,¬x.nil:=fun g x hx=>by
  rw[htk]at hx;rcases List.mem_append.1 hx with z|z
  ·exact hp x z
  ·rw[List.mem_singleton.1 z];exact g
 refine br (u=0) (by rw[e_eql hA]) (fun c2=>?_) (fun c2=>?_)<;>refine zc ?_
 ·refine br (v=0) (by rw[e_eql hA]) (fun c3=>?_) (fun c3=>?_)<;>refine zc ?_
  ·exact hz h ⟨_,hmem,c2,c3⟩ he _ _ _
  ·rw[e2]
   exact ih (i+1) h (by omega) (by omega) (by omega) (nxt (fun q=>c3 q.2)) he
 ·rw[e2]
  exact ih (i+1) h (by omega) (by omega) (by omega) (nxt (fun q=>c2 q.1)) he
theorem along_ok{h:AHeap}(hlow:h.low<=h.next){a:Option Addr}{n c:Nat}{l:List Vk}(hl:Vs h a n l)(hn:n<=1000)(hv:∀v∈l,okV v)(hd:(l.map Vk.pr).Nodup){sa:Option Addr}{ns sc:Nat}{S:List F2}(hS:Rows F2.cells 2 h sa ns S)(hns:ns<=1000){Q:Value->AHeap->Prop}
  (hno:∀h',(∃p∈S,fv l p.n p.d=none)->Ext h h'->Q (.tuple #[.slice none 0 0,.int .i64 6]) h')
  (hz:∀h',(∀p∈S,fv l p.n p.d≠none)->(∃v∈S.map (vis1 l),v.nil)->Ext h h'->Q (.tuple #[.slice none 0 0,.int .i64 18]) h')
  (hok:∀h' a' c',(∀p∈S,fv l p.n p.d≠none)->(∀v∈S.map (vis1 l),¬v.nil)->Apd h' 3 a' ns c' ((S.map (vis1 l)).flatMap Ck.cells)->Cs h' a' ns (S.map (vis1 l))->Ext h h'->Q (.tuple #[.slice a' ns c',.int .i64 0]) h') :
  call 36 [.slice a n c,.slice sa ns sc] h Q:=by
 refine hA.bodyR Try.func36 r36_ok (hA.alike _ _ _ rfl) hlow (zc ?_);refine al_loop1 hA hlow hl hn hv hd hS hns (e_ofNat hA ns) (fun h1 q x e kn K=>?_) (fun h1 a' c' q1 q2 q3 x=>?_) ns 0 0 h none 0 (by omega) (by omega) (by omega) rfl (by simp) (by simp;exact Apd.nil _ _) (From.none _) (.refl h)
 ·refine zc ?_
  exact hno h1 q x
 refine zc ?_;have hC:Cs h1 a' ns (S.map (vis1 l)):=⟨q2.cells,ck_len,by omega⟩;refine al_loop2 hA (x.lowOK hlow) hC hns (e_ofNat hA ns) (fun h2 z x2 e kn K=>?_) (fun h2 z x2=>?_) ns 0 h1 (by omega) (by omega) (by omega) (by simp) (.refl h1)
 ·refine zc ?_
  exact hz h2 q1 z (x.trans x2)
 ·refine zc ?_
  exact hok h2 a' c' q1 z (q2.ext x2) (hC.ext x2) (x.trans x2)
end Go.Proofs.Ytlimjlpjldijdaa
namespace Go.Sim
theorem Cells.part{h:AHeap}{a:Option Addr}{n es:Nat}{cells:List Value}(c:Cells h a n es cells){i m:Nat}(hi:i+m<=n):Cells h (a.map (aadd · (i*es))) m es ((cells.drop (i*es)).take (m*es)):=by
 have hlen:=c.length;have hm:i*es+m*es<=n*es:=by rw[<-Nat.add_mul];exact Nat.mul_le_mul_right es hi
 cases a with
 |none=>
  obtain⟨rfl,rfl⟩:=c;exact⟨by omega,by simp⟩
 |some ad=>
  obtain⟨h1,h2,h3⟩:=c;obtain⟨b,o,sp⟩:=ad;simp only at h1;subst h1;refine⟨rfl,h2,?_⟩;unfold AHeap.readG aadd at *;simp only[]at h3 ⊢;split at h3
  ·rename_i cs hcs
   obtain⟨e1,e2⟩:=readN_eq h3;refine readN_some ?_ ?_
   ·subst e1
    rw[List.drop_take,List.take_take,List.drop_drop,Nat.min_eq_left (by omega)]
   ·simp only[List.length_take,List.length_drop];omega
  ·cases h3
theorem Cells.head{h:AHeap}{a:Option Addr}{n es:Nat}{cells:List Value}(c:Cells h a n es cells){m:Nat}(hm:m<=n):Cells h a m es (cells.take (m*es)):=by
 have:=c.part (i:=0) (m:=m) (by omega);rw[Nat.zero_mul,List.drop_zero]at this;cases a with
 |none=>exact this
 |some ad=>exact this
theorem flat_takeN{α:Type}{enc:α->List Value}{es:Nat}(he:∀x,(enc x).length=es)(l:List α)(k:Nat):(l.flatMap enc).take (k*es)=(l.take k).flatMap enc:=by
 induction l generalizing k with
 |nil=>simp
 |cons x l ih=>
  cases k with
  |zero=>simp
  |succ k=>rw[List.flatMap_cons,List.take_succ_cons,List.flatMap_cons,List.take_append,he,List.take_of_length_le (by rw[he,Nat.succ_mul];omega),show(k+1)*es-es=k*es by rw[Nat.succ_mul];omega,ih]
theorem flat_dropN{α:Type}{enc:α->List Value}{es:Nat}(he:∀x,(enc x).length=es)(l:List α)(k:Nat):(l.flatMap enc).drop (k*es)=(l.drop k).flatMap enc:=by
 induction l generalizing k with
 |nil=>simp
 |cons x l ih=>
  cases k with
  |zero=>simp
  |succ k=>rw[List.flatMap_cons,List.drop_succ_cons,List.drop_append,he,List.drop_of_length_le (by rw[he,Nat.succ_mul];omega),show(k+1)*es-es=k*es by rw[Nat.succ_mul];omega,ih,List.nil_append]
end Go.Sim
namespace Go.Proofs.Ytlimjlpjldijdaa
open Go.Sim
set_option maxRecDepth 100000
theorem basP_len(l:List Vk):(basP l).length<=28:=by
 have:=List.length_filter_le (fun p=>decide (p∈l.map Vk.pr)) allP;rw[allP_is]at this;unfold basP;rw[allP_is];simpa using this
variable{F:Prims}{call head arith cmp scmp bnot bsame conv neg imax imin ofNat slen place inR nz geZ rd wr push next mkOK nat zeros sadd eqAgg cut slc sslc strAt part app cpy putAt fresh lowered bump wrote addN lt ne fpAll fpApp brk yn rng mget mput mnew bytes clr mrng ment:_}(hA:AP F ⟨call,head,arith,cmp,scmp,bnot,bsame,conv,neg,imax,imin,ofNat,slen,place,inR,nz,geZ,rd,wr,push,next,mkOK,nat,zeros,sadd,eqAgg,cut,slc,sslc,strAt,part,app,cpy,putAt,fresh,lowered,bump,wrote,addN,lt,ne,fpAll,fpApp,brk,yn,rng,mget,mput,mnew,bytes,clr,mrng,ment⟩)
include hA
end Go.Proofs.Ytlimjlpjldijdaa
namespace Go.Proofs.Ytlimjlpjldijdaa
open Go.Sim
set_option maxRecDepth 100000
variable{F:Prims}{call head arith cmp scmp bnot bsame conv neg imax imin ofNat slen place inR nz geZ rd wr push next mkOK nat zeros sadd eqAgg cut slc sslc strAt part app cpy putAt fresh lowered bump wrote addN lt ne fpAll fpApp brk yn rng mget mput mnew bytes clr mrng ment:_}(hA:AP F ⟨call,head,arith,cmp,scmp,bnot,bsame,conv,neg,imax,imin,ofNat,slen,place,inR,nz,geZ,rd,wr,push,next,mkOK,nat,zeros,sadd,eqAgg,cut,slc,sslc,strAt,part,app,cpy,putAt,fresh,lowered,bump,wrote,addN,lt,ne,fpAll,fpApp,brk,yn,rng,mget,mput,mnew,bytes,clr,mrng,ment⟩)
include hA
theorem wrote_no{X h':AHeap}(e:Ext (fresh X) h'):wrote X h'=false:=by
 rw[e_wrote hA];have h1:=e.lowG;rw[e_fresh hA]at h1;exact blt_false (by
  have:min X.next X.next<=h'.low:=h1;omega)
end Go.Proofs.Ytlimjlpjldijdaa
namespace Go.Proofs.Ytlimjlpjldijdaa
open Go.Sim
set_option maxRecDepth 100000
inductive AnsG{β:Type}(l:List Vk)(f:List F2->Int->β)(z:β):β->Int->Prop
 |bad {e:Int} (h0:e≠0) (h:CkR l e):AnsG l f z z e
 |ok {t:List F2} {pk:Int} (h:CkR l 0) (hp:Parts (basP l) (stS l) (fun _=>false) [] 0 t pk):AnsG l f z (f t pk) 0
theorem AnsG.uniq{β:Type}{l:List Vk}{f:List F2->Int->β}{z x y:β}{e e':Int}(h:AnsG l f z x e)(k:AnsG l f z y e'):x=y/\e=e':=by
 cases h with
 |bad h0 h=>cases k with
  |bad _ k=>exact⟨rfl,h.uniq k⟩
  |ok k _=>exact absurd (h.uniq k) h0
 |ok h hp=>cases k with
  |bad h0 k=>exact absurd (k.uniq h) h0
  |ok k kp=>
   obtain⟨rfl,rfl⟩:=hp.uniq kp;exact⟨rfl,rfl⟩
abbrev BasO(l:List Vk):List (List Int)->Int->Prop:=AnsG l (fun t _=>(chds t (basP l)).map (circF t)) []
theorem grr_nil(h:AHeap):GrR iC 1 h none 0 [] []:=⟨Rows.nil h hd_len (by omega),rfl,fun y y0 y1=>by omega⟩
theorem circ_len{l:List Vk}{t:List F2}{pk:Int}(h:CkR l 0)(hp:Parts (basP l) (stS l) (fun _=>false) [] 0 t pk)(ht:t.length<=8):∀r∈(chds t (basP l)).map (circF t),r.length<=1000:=by
 intro r hr;obtain⟨p,hp',rfl⟩:=List.mem_map.1 hr;unfold circF;obtain⟨k1,k2,k3⟩:=h.ok0;obtain⟨⟨w,hw⟩,_⟩:=chds_ok (okV.st k2) (okV.lt k2) (basP_is k2) hp p hp';have wl:=path_len (parts_grows hp) hw;have htl:(trT t).length=t.length:=by unfold trT;simp
 simp only[hw,Option.getD_some,List.length_cons,List.length_dropLast];omega
variable{F:Prims}{call head arith cmp scmp bnot bsame conv neg imax imin ofNat slen place inR nz geZ rd wr push next mkOK nat zeros sadd eqAgg cut slc sslc strAt part app cpy putAt fresh lowered bump wrote addN lt ne fpAll fpApp brk yn rng mget mput mnew bytes clr mrng ment:_}(hA:AP F ⟨call,head,arith,cmp,scmp,bnot,bsame,conv,neg,imax,imin,ofNat,slen,place,inR,nz,geZ,rd,wr,push,next,mkOK,nat,zeros,sadd,eqAgg,cut,slc,sslc,strAt,part,app,cpy,putAt,fresh,lowered,bump,wrote,addN,lt,ne,fpAll,fpApp,brk,yn,rng,mget,mput,mnew,bytes,clr,mrng,ment⟩)
include hA
theorem bas_a(hW:LW F){h:AHeap}(hlow:h.low<=h.next){a:Option Addr}{n c:Nat}{l:List Vk}(hl:Vs h a n l)(hn:n<=1000){Q:Value->AHeap->Prop}
  (hQ:∀g e h' a' k c' hs,BasO l g e->GrR iC 1 h' a' k hs g->k<=1000->(∀r∈g,r.length<=1000)->Ext h h'->Q (.tuple #[.slice a' k c',.int .i64 e]) h'):call 11 [.slice a n c] h Q:=
 Basis_ok hA hW hlow hl hn (fun e h' e0 ke x=>hQ [] e h' none 0 0 [] (.bad e0 ke) (grr_nil h') (by omega) (fun r hr=>by cases hr) x) (fun t pk h' a' k c' hs' ke q s r f x=>hQ _ 0 h' a' k c' hs' (.ok ke q) r (by
  have h5:=r.len;have h6:=List.length_filter_le (fun p=>decide (p∉t)) (basP l);have:=basP_len l;rw[List.length_map]at h5;unfold chds at h5;omega) (circ_len ke q s) x)
