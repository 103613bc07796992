import Derived.Test.YtlimjlpjldijdaaCxM
import Derived.Test.YtlimjlpjldijdaaQuO
import Derived.KernelRfl
set_option linter.unusedSimpArgs false
set_option linter.unusedVariables false
namespace Go.Proofs.Ytlimjlpjldijdaa
open Go.Sim
set_option maxRecDepth 100000
theorem gcd_tmod(a b:Int):Int.gcd b (a.tmod b)=Int.gcd a b:=by
 unfold Int.gcd;rw[Int.natAbs_tmod,Nat.gcd_comm,<-Nat.gcd_rec,Nat.gcd_comm]
def i63(n:Int):Prop:=-9223372036854775807<=n/\n<=9223372036854775807
theorem gcd_i63{a b:Int}(ha:i63 a)(hb:i63 b):i63 (Int.gcd a b):=by
 unfold i63 at *;by_cases h:a=0
 ·rw[h,Int.gcd_zero_left];omega
 ·have:=Nat.gcd_le_left b.natAbs (m:=a.natAbs) (by omega)
  have e:Int.gcd a b=Nat.gcd a.natAbs b.natAbs:=rfl;omega
variable{F:Prims}{call head arith a0 b0 c0 e0 f0 neg imax j0 k0 l0 place m0 nz n0 rd wr o0 next p0 q0 r0 s0 t0 u0 v0 w0 x0 part y0 z0 j1 n1 lowered bump o1 r1 lt ne t1 u1 v1 yn w1 y1 z1 f2 g2 i2 j2 n2:_}(hA:AP F ⟨call,head,arith,a0,b0,c0,e0,f0,neg,imax,j0,k0,l0,place,m0,nz,n0,rd,wr,o0,next,p0,q0,r0,s0,t0,u0,v0,w0,x0,part,y0,z0,j1,n1,lowered,bump,o1,r1,lt,ne,t1,u1,v1,yn,w1,y1,z1,f2,g2,i2,j2,n2⟩)
include hA
theorem imax_abs{a:Int}(h:i63 a):imax a (neg .i64 a)=a.natAbs:=by
 unfold i63 at h;rw[e_imax hA,e_neg hA,wrap64 (by omega) (by omega)];split<;>omega
theorem quoT{a b:Int}(h1:-9223372036854775808<a)(h2:a<9223372036854775808):arith .quo .i64 a b=a.tdiv b:=by
 have:=Int.natAbs_tdiv_le_natAbs a b;rw[e_quo hA,wrap64 (by omega) (by omega)]
theorem rem_tmod{a b:Int}:arith .rem .i64 a b=a.tmod b:=e_rem hA _ _ _
theorem cgcd_loop{h0:AHeap}{Q:Exit->SS->Prop}:∀(m:Nat) (a b:Int) (h:AHeap),b.natAbs<=m->i63 a->i63 b->Ext h0 h->
  (∀a':Int,i63 a'->(a'.natAbs:Int)=Int.gcd a b->∀e kn K h',Ext h0 h'->Q (.exit 0) ⟨(0,.int .i64 a') :: e,kn,K,h'⟩)->head 52 1 0 ⟨[(0,.int .i64 a),(1,.int .i64 b)],0,[],h⟩ Q:=by
 intro m
 induction m with
 |zero=>
  intro a b h hm ha hb he hQ;have hb0:b=0:=by omega
  refine hA.roundR Try.func52 r52_ok (zc ?_);refine br (b≠0) (by rw[e_neq hA]) (fun c=>absurd hb0 c) (fun c=>?_)<;>refine zc ?_;exact hQ a ha (by rw[hb0];simp) _ _ _ h he
 |succ m ih=>
  intro a b h hm ha hb he hQ;refine hA.roundR Try.func52 r52_ok (zc ?_);refine br (b≠0) (by rw[e_neq hA]) (fun c=>?_) (fun c=>?_)<;>refine zc ?_
  ·obtain⟨h9,hh9⟩:∃z,z=bump h 6:=⟨_,rfl⟩
   have e9:Ext h h9:=by rw[hh9,e_bump hA];exact .bump _ _
   rw[<-hh9];refine⟨nz_ok hA c,?_⟩;refine zc ?_;rw[rem_tmod hA];have l1:(a.tmod b).natAbs<b.natAbs:=by rw[Int.natAbs_tmod];exact Nat.mod_lt _ (by omega)
   unfold i63 at hb;refine ih b (a.tmod b) h9 (by omega) hb (by unfold i63;omega) (he.trans e9) (fun a' h1 h2=>hQ a' h1 ?_);rw[h2,gcd_tmod]
  ·have hb0:b=0:=by omega
   exact hQ a ha (by rw[hb0];simp) _ _ _ h he
theorem cgcd_ok{h:AHeap}(hlow:h.low<=h.next){a b:Int}(ha:i63 a)(hb:i63 b){Q:Value->AHeap->Prop}(hQ:∀g:Int,g=Int.gcd a b->∀h',Ext h h'->Q (.int .i64 g) h'):call 52 [.int .i64 a,.int .i64 b] h Q:=by
 refine hA.bodyR Try.func52 r52_ok (hA.alike _ _ _ rfl) hlow (zc ?_);refine cgcd_loop hA b.natAbs a b h (Nat.le_refl _) ha hb (.refl h) (fun a' h1 h2 e kn K h' he=>?_);refine zc ?_;rw[imax_abs hA h1];exact hQ _ h2 h' he
theorem cfits_ok{h:AHeap}(hlow:h.low<=h.next){x:Int}{Q:Value->AHeap->Prop}(hQ:∀r:Bool,(r=true↔-1000000000<=x/\x<=1000000000)->Q (.bool r) h):call 56 [.int .i64 x] h Q:=by
 refine hA.bodyR Try.func56 r56_ok (hA.alike _ _ _ rfl) hlow (zc ?_);refine br (-1000000000<=x) (by rw[e_geq hA]) (fun c=>?_) (fun c=>?_)<;>refine zc ?_
 ·rw[e_leq hA]
  exact hQ _ (by simp;omega)
 ·exact hQ _ (by simp;omega)
theorem ccheck_ok{h:AHeap}(hlow:h.low<=h.next){a b d:Int}{Q:Value->AHeap->Prop}
  (hQ:∀(e:Int) h',(e=0/\okC a b d)\/(e=8/\¬okC a b d)->Ext h h'->Q (.int .i64 e) h'):call 42 [.agg #[.int .i64 a,.int .i64 b,.int .i64 d]] h Q:=by
 have bad:¬(1<=d/\d<=1000000000/\-1000000000<=a/\a<=1000000000/\-1000000000<=b/\b<=1000000000/\Int.gcd (Int.gcd a b) d=1)->¬okC a b d:=fun w q=>w ((okC_iff a b d).1 q)
 obtain⟨h9,hh9⟩:∃z,z=bump h 31:=⟨_,rfl⟩;have e9:Ext h h9:=by rw[hh9];exact ext_bump hA _ _
 have l9:=e9.lowOK hlow;refine hA.bodyR Try.func42 r42_ok (hA.alike _ _ _ rfl) hlow (zc ?_);rw[<-hh9];refine br (d<1) (by rw[e_lss hA]) (fun c1=>?_) (fun c1=>?_)<;>refine zc ?_
 ·exact hQ _ _ (.inr ⟨rfl,bad (by omega)⟩) e9
 refine br (1000000000<d) (by rw[e_gtr hA]) (fun c2=>?_) (fun c2=>?_)<;>refine zc ?_
 ·exact hQ _ _ (.inr ⟨rfl,bad (by omega)⟩) e9
 refine cfits_ok hA (low_fresh hA h9) (fun r hr=>⟨_,rfl,?_⟩);refine zc ?_;rw[low_same hA l9];refine br (r=false) (by rw[e_bnot hA];cases r<;>rfl) (fun c3=>?_) (fun c3=>?_)<;>refine zc ?_
 ·refine hQ _ _ (.inr ⟨rfl,bad (fun w=>?_)⟩) e9
  rw[c3]at hr;have:=hr.2 ⟨w.2.2.1,w.2.2.2.1⟩;cases this
 have r3:=hr.1 (by cases r with|true=>rfl|false=>exact absurd rfl c3);refine cfits_ok hA (low_fresh hA h9) (fun r hr=>⟨_,rfl,?_⟩);refine zc ?_;rw[low_same hA l9];refine br (r=false) (by rw[e_bnot hA];cases r<;>rfl) (fun c3=>?_) (fun c3=>?_)<;>refine zc ?_
 ·refine hQ _ _ (.inr ⟨rfl,bad (fun w=>?_)⟩) e9
  rw[c3]at hr;have:=hr.2 ⟨w.2.2.2.2.1,w.2.2.2.2.2.1⟩;cases this
 have r4:=hr.1 (by cases r with|true=>rfl|false=>exact absurd rfl c3);refine cgcd_ok hA (low_fresh hA h9) (by unfold i63;omega) (by unfold i63;omega) (fun g hg hz ez=>⟨_,rfl,?_⟩);obtain⟨hX,hhX⟩:∃z,z=lowered h9 hz:=⟨_,rfl⟩;have eX:Ext h hX:=by rw[hhX];exact ext_low hA hlow e9 ez
 have lX:=eX.lowOK hlow;refine zc ?_;rw[<-hhX];have g1:=gcd_i63 (a:=a) (b:=b) (by unfold i63;omega) (by unfold i63;omega);rw[<-hg]at g1;refine cgcd_ok hA (low_fresh hA hX) g1 (by unfold i63;omega) (fun g' hg' hz' ez'=>⟨_,rfl,?_⟩);obtain⟨hY,hhY⟩:∃z,z=lowered hX hz':=⟨_,rfl⟩;have eY:Ext h hY:=by rw[hhY];exact ext_low hA hlow eX ez'
 refine zc ?_;rw[<-hhY];rw[hg]at hg';refine br (g'≠1) (by rw[e_neq hA]) (fun c5=>?_) (fun c5=>?_)<;>refine zc ?_
 ·exact hQ _ _ (.inr ⟨rfl,bad (by omega)⟩) eY
 ·exact hQ _ _ (.inl ⟨rfl,(okC_iff a b d).2 (by omega)⟩) eY
theorem cboth_ok{h:AHeap}(hlow:h.low<=h.next){a b d a' b' d':Int}{Q:Value->AHeap->Prop}
  (hQ:∀(e:Int) h',(e=0/\okC a b d/\okC a' b' d')\/(e=8/\¬(okC a b d/\okC a' b' d'))->Ext h h'->Q (.int .i64 e) h'):call 43 [.agg #[.int .i64 a,.int .i64 b,.int .i64 d],.agg #[.int .i64 a',.int .i64 b',.int .i64 d']] h Q:=by
 refine hA.bodyR Try.func43 r43_ok (hA.alike _ _ _ rfl) hlow (zc ?_);refine ccheck_ok hA hlow (fun e h1 k1 x1=>⟨_,rfl,?_⟩);refine zc ?_;refine br (e≠0) (by rw[e_neq hA]) (fun c=>?_) (fun c=>?_)<;>refine zc ?_
 ·refine hQ _ _ (.inr ⟨by omega,fun w=>?_⟩) x1
  rcases k1 with ⟨q,_⟩|⟨_,q⟩
  ·exact c q
  ·exact q w.1
 have q1:okC a b d:=by
  rcases k1 with ⟨_,q⟩|⟨q,_⟩
  ·exact q
  ·omega
 refine ccheck_ok hA (x1.lowOK hlow) (fun e h2 k2 x2=>⟨_,rfl,?_⟩);refine zc ?_;refine hQ _ _ ?_ (x1.trans x2);rcases k2 with ⟨q,w⟩|⟨q,w⟩
 ·exact .inl ⟨q,q1,w⟩
 ·exact .inr ⟨q,fun z=>w z.2⟩
def wideC(n:Int):Prop:=-2000000000000000000<=n/\n<=2000000000000000000
theorem cmake_ok{h:AHeap}(hlow:h.low<=h.next){n m d:Int}(hn:wideC n)(hm:wideC m)(hd:wideC d)(d0:d≠0){z:Cq}(h1:(n:Rat)=z.re*d)(h2:(m:Rat)=z.im*d){Q:Value->AHeap->Prop}
  (hQ:∀(r s t e:Int) h',outC z r s t e->Ext h h'->Q (.tuple #[.agg #[.int .i64 r,.int .i64 s,.int .i64 t],.int .i64 e]) h'):call 44 [.int .i64 n,.int .i64 m,.int .i64 d] h Q:=by
 unfold wideC at hn hm hd;have pt:∀(i:Nat) (v:Int),[n,m,d][i]?=some v->part 2 #[.int .i64 n,.int .i64 m,.int .i64 d] (place 0 i 1) (.int .i64 v):=fun i v hv=>by
  rw[e_part hA,e_place hA];unfold partA;rw[show isAggB Try.prog 2=some false by kernel_rfl];show([n,m,d].map (Value.int .i64))[0+(i:Int).toNat*1]?=_;rw[show 0+(i:Int).toNat*1=i by omega,List.getElem?_map,hv];rfl
 refine hA.bodyR Try.func44 r44_ok (hA.alike _ _ _ rfl) hlow (zc ?_);refine hA.roundR Try.func44 r44_ok (zc ?_);refine br True (by rw[e_lss hA];rfl) (fun _=>?_) (fun q=>absurd trivial q)<;>refine zc ?_;refine⟨in_ok hA (by omega) (by omega),?_⟩;refine zc ?_;refine⟨n,pt 0 n rfl,?_⟩;refine zc ?_;refine br (n < -2000000000000000000) (by rw[e_lss hA]) (fun q=>by omega) (fun _=>?_)<;>refine zc ?_;refine br (2000000000000000000<n) (by rw[e_gtr hA]) (fun q=>by omega) (fun _=>?_)<;>refine zc ?_;rw[show arith .add .i64 0 1=1 by rw[add64 hA (by omega) (by omega)];rfl];refine hA.roundR Try.func44 r44_ok (zc ?_);refine br True (by rw[e_lss hA];rfl) (fun _=>?_) (fun q=>absurd trivial q)<;>refine zc ?_;refine⟨in_ok hA (by omega) (by omega),?_⟩;refine zc ?_;refine⟨m,pt 1 m rfl,?_⟩;refine zc ?_;refine br (m < -2000000000000000000) (by rw[e_lss hA]) (fun q=>by omega) (fun _=>?_)<;>refine zc ?_;refine br (2000000000000000000<m) (by rw[e_gtr hA]) (fun q=>by omega) (fun _=>?_)<;>refine zc ?_;rw[show arith .add .i64 1 1=2 by rw[add64 hA (by omega) (by omega)];rfl];refine hA.roundR Try.func44 r44_ok (zc ?_);refine br True (by rw[e_lss hA];rfl) (fun _=>?_) (fun q=>absurd trivial q)<;>refine zc ?_;refine⟨in_ok hA (by omega) (by omega),?_⟩;refine zc ?_;refine⟨d,pt 2 d rfl,?_⟩;refine zc ?_;refine br (d < -2000000000000000000) (by rw[e_lss hA]) (fun q=>by omega) (fun _=>?_)<;>refine zc ?_;refine br (2000000000000000000<d) (by rw[e_gtr hA]) (fun q=>by omega) (fun _=>?_)<;>refine zc ?_;rw[show arith .add .i64 2 1=3 by rw[add64 hA (by omega) (by omega)];rfl];refine hA.roundR Try.func44 r44_ok (zc ?_);refine br False (by rw[e_lss hA];rfl) (fun q=>q.elim) (fun _=>?_)<;>refine zc ?_;refine br (d=0) (by rw[e_eql hA]) (fun q=>absurd q d0) (fun _=>?_)<;>refine zc ?_;refine cgcd_ok hA hlow (by unfold i63;omega) (by unfold i63;omega) (fun g0 hg0 k1 x1=>⟨_,rfl,?_⟩);refine zc ?_;have i0:i63 g0:=by rw[hg0];exact gcd_i63 (by unfold i63;omega) (by unfold i63;omega)
 refine cgcd_ok hA (x1.lowOK hlow) i0 (by unfold i63;omega) (fun g hg k2 x2=>⟨_,rfl,?_⟩);have y2:=x1.trans x2;have i1:i63 g:=by rw[hg];exact gcd_i63 i0 (by unfold i63;omega)
 have g0':0<=g:=by omega
 rw[hg0]at hg;unfold i63 at i1;obtain⟨s,hs⟩:∃s,s=if d<0 then -g else g:=⟨_,rfl⟩
 have R:=red_ok d0 hg hs h1 h2;obtain⟨R0,R1,Rn,Rm,Rd,Rp,Rg,Rre,Rim⟩:=R;have q1:arith .quo .i64 n s=n.tdiv s:=quoT hA (by omega) (by omega);have q2:arith .quo .i64 m s=m.tdiv s:=quoT hA (by omega) (by omega);have q3:arith .quo .i64 d s=d.tdiv s:=quoT hA (by omega) (by omega);refine zc ?_;generalize n.tdiv s=r at *;generalize m.tdiv s=t at *;generalize d.tdiv s=u at *;have yes:(-1000000000<=r/\r<=1000000000)->(-1000000000<=t/\t<=1000000000)->(-1000000000<=u/\u<=1000000000)->isC r t u z:=fun a b c=>⟨Rp,c.2,a.1,a.2,b.1,b.2,Rg,Rre,Rim⟩
 have no:¬(isC r t u z)->∀a b c,¬isC a b c z:=fun w a b c k=>by
  have c1:=cross (a:=r) (a':=a) Rre k.re;have c2:=cross (a:=t) (a':=b) Rim k.im;have p:=Nat.dvd_antisymm (den_dvd c1 c2 Rg) (den_dvd c1.symm c2.symm k.g);have hd:u=c:=by have:=k.d1;omega
  subst hd;have e1:r=a:=Int.eq_of_mul_eq_mul_right (by omega) c1;have e2:t=b:=Int.eq_of_mul_eq_mul_right (by omega) c2;rw[e1,e2]at w;exact w k
 have l2:=y2.lowOK hlow;refine br (d<0) (by rw[e_lss hA]) (fun c=>?_) (fun c=>?_)<;>refine zc ?_
 ·have e:neg .i64 g=s:=by rw[hs,if_pos c,e_neg hA,wrap64 (by omega) (by omega)];omega
  rw[e];obtain⟨h9,hh9⟩:∃z,z=bump k2 12:=⟨_,rfl⟩;have e9:Ext k2 h9:=by rw[hh9];exact ext_bump hA _ _
  have l9:=e9.lowOK l2;have y9:=y2.trans e9;rw[<-hh9]
  (refine zq ?_;repeat ((first|rw[q1]|rw[q2]|rw[q3]);refine zq ?_))
  refine cfits_ok hA l9 (fun f1 hf1=>⟨_,rfl,?_⟩);refine zc ?_;refine br (f1=false) (by rw[e_bnot hA];cases f1<;>rfl) (fun c3=>?_) (fun c3=>?_)<;>refine zc ?_
  ·exact hQ _ _ _ _ _ (.inr ⟨no (fun w=>by rw[c3]at hf1;have:=hf1.2 ⟨w.a1,w.a2⟩;cases this),rfl,rfl,rfl,rfl⟩) y9
  have k1:=hf1.1 (by cases f1 with|true=>rfl|false=>exact absurd rfl c3);refine cfits_ok hA l9 (fun f1 hf1=>⟨_,rfl,?_⟩);refine zc ?_;refine br (f1=false) (by rw[e_bnot hA];cases f1<;>rfl) (fun c3=>?_) (fun c3=>?_)<;>refine zc ?_
  ·exact hQ _ _ _ _ _ (.inr ⟨no (fun w=>by rw[c3]at hf1;have:=hf1.2 ⟨w.b1,w.b2⟩;cases this),rfl,rfl,rfl,rfl⟩) y9
  have k2':=hf1.1 (by cases f1 with|true=>rfl|false=>exact absurd rfl c3);refine cfits_ok hA l9 (fun f1 hf1=>⟨_,rfl,?_⟩);refine zc ?_;refine br (f1=false) (by rw[e_bnot hA];cases f1<;>rfl) (fun c3=>?_) (fun c3=>?_)<;>refine zc ?_
  ·exact hQ _ _ _ _ _ (.inr ⟨no (fun w=>by rw[c3]at hf1;have:=hf1.2 ⟨by have:=w.d1;omega,w.d2⟩;cases this),rfl,rfl,rfl,rfl⟩) y9
  have k3':=hf1.1 (by cases f1 with|true=>rfl|false=>exact absurd rfl c3);exact hQ _ _ _ _ _ (.inl ⟨yes k1 k2' k3',rfl⟩) y9
 ·have e:g=s:=by rw[hs,if_neg c]
  rw[e];obtain⟨h9,hh9⟩:∃z,z=bump k2 12:=⟨_,rfl⟩;have e9:Ext k2 h9:=by rw[hh9];exact ext_bump hA _ _
  have l9:=e9.lowOK l2;have y9:=y2.trans e9;rw[<-hh9]
  (refine zq ?_;repeat ((first|rw[q1]|rw[q2]|rw[q3]);refine zq ?_))
  refine cfits_ok hA l9 (fun f1 hf1=>⟨_,rfl,?_⟩);refine zc ?_;refine br (f1=false) (by rw[e_bnot hA];cases f1<;>rfl) (fun c3=>?_) (fun c3=>?_)<;>refine zc ?_
  ·exact hQ _ _ _ _ _ (.inr ⟨no (fun w=>by rw[c3]at hf1;have:=hf1.2 ⟨w.a1,w.a2⟩;cases this),rfl,rfl,rfl,rfl⟩) y9
  have k1:=hf1.1 (by cases f1 with|true=>rfl|false=>exact absurd rfl c3);refine cfits_ok hA l9 (fun f1 hf1=>⟨_,rfl,?_⟩);refine zc ?_;refine br (f1=false) (by rw[e_bnot hA];cases f1<;>rfl) (fun c3=>?_) (fun c3=>?_)<;>refine zc ?_
  ·exact hQ _ _ _ _ _ (.inr ⟨no (fun w=>by rw[c3]at hf1;have:=hf1.2 ⟨w.b1,w.b2⟩;cases this),rfl,rfl,rfl,rfl⟩) y9
  have k2':=hf1.1 (by cases f1 with|true=>rfl|false=>exact absurd rfl c3);refine cfits_ok hA l9 (fun f1 hf1=>⟨_,rfl,?_⟩);refine zc ?_;refine br (f1=false) (by rw[e_bnot hA];cases f1<;>rfl) (fun c3=>?_) (fun c3=>?_)<;>refine zc ?_
  ·exact hQ _ _ _ _ _ (.inr ⟨no (fun w=>by rw[c3]at hf1;have:=hf1.2 ⟨by have:=w.d1;omega,w.d2⟩;cases this),rfl,rfl,rfl,rfl⟩) y9
  have k3':=hf1.1 (by cases f1 with|true=>rfl|false=>exact absurd rfl c3);exact hQ _ _ _ _ _ (.inl ⟨yes k1 k2' k3',rfl⟩) y9
omit hA in
theorem prod18{x y:Int}(h1:-1000000000<=x)(h2:x<=1000000000)(h3:-1000000000<=y)(h4:y<=1000000000):-1000000000000000000<=x*y/\x*y<=1000000000000000000:=by
 have:(x*y).natAbs<=1000000000*1000000000:=by rw[Int.natAbs_mul];exact Nat.mul_le_mul (by omega) (by omega)
 omega
theorem cmul_ok{h:AHeap}(hlow:h.low<=h.next){a b d a' b' d':Int}{Q:Value->AHeap->Prop}
  (hQ:∀(r s t e:Int) h',OpC Cq.mul a b d a' b' d' r s t e->Ext h h'->Q (.tuple #[.agg #[.int .i64 r,.int .i64 s,.int .i64 t],.int .i64 e]) h'):call 21 [.agg #[.int .i64 a,.int .i64 b,.int .i64 d],.agg #[.int .i64 a',.int .i64 b',.int .i64 d']] h Q:=by
 refine hA.bodyR Try.func21 r21_ok (hA.alike _ _ _ rfl) hlow (zc ?_);refine cboth_ok hA hlow (fun e h1 k1 x1=>⟨_,rfl,?_⟩);refine zc ?_;refine br (e≠0) (by rw[e_neq hA]) (fun c=>?_) (fun c=>?_)<;>refine zc ?_
 ·rcases k1 with ⟨q,_⟩|⟨q,w⟩
  ·exact absurd q c
  ·rw[q];exact hQ _ _ _ _ _ (.inl ⟨w,rfl,rfl,rfl,rfl⟩) x1
 obtain⟨⟨z,hz⟩,⟨w,hw⟩⟩:okC a b d/\okC a' b' d':=by
  rcases k1 with ⟨_,q⟩|⟨q,_⟩
  ·exact q
  ·omega
 have p1:=prod18 hz.a1 hz.a2 hw.a1 hw.a2;have p2:=prod18 hz.b1 hz.b2 hw.b1 hw.b2;have p3:=prod18 hz.a1 hz.a2 hw.b1 hw.b2;have p4:=prod18 hz.b1 hz.b2 hw.a1 hw.a2;have p5:=prod18 (x:=d) (y:=d') (by have:=hz.d1;omega) hz.d2 (by have:=hw.d1;omega) hw.d2;have dd:d*d'≠0:=Int.mul_ne_zero (by have:=hz.d1;omega) (by have:=hw.d1;omega);have m1:arith .mul .i64 a a'=a*a':=mul64 hA (by omega) (by omega);have m2:arith .mul .i64 b b'=b*b':=mul64 hA (by omega) (by omega);have m3:arith .mul .i64 a b'=a*b':=mul64 hA (by omega) (by omega);have m4:arith .mul .i64 b a'=b*a':=mul64 hA (by omega) (by omega);have m5:arith .mul .i64 d d'=d*d':=mul64 hA (by omega) (by omega);have s1:arith .sub .i64 (a*a') (b*b')=a*a'-b*b':=sub64 hA (by omega) (by omega);have s2:arith .add .i64 (a*b') (b*a')=a*b'+b*a':=add64 hA (by omega) (by omega);rw[m1,m2,m3,m4,m5,s1,s2];refine cmake_ok hA (x1.lowOK hlow) (z:=z.mul w) (by unfold wideC;omega) (by unfold wideC;omega) (by unfold wideC;omega) dd ?_ ?_ (fun r s t e h2 k2 x2=>⟨_,_,_,_,rfl,?_⟩)
 ·show _=(z.re*w.re-z.im*w.im)*_
  rw[Rat.intCast_sub,Rat.intCast_mul,Rat.intCast_mul,Rat.intCast_mul,hz.re,hw.re,hz.im,hw.im];grind
 ·show _=(z.re*w.im+z.im*w.re)*_
  rw[Rat.intCast_add,Rat.intCast_mul,Rat.intCast_mul,Rat.intCast_mul,hz.im,hw.im,hz.re,hw.re];grind
 refine zc ?_;exact hQ _ _ _ _ _ (.inr ⟨z,w,hz,hw,k2⟩) (x1.trans x2)
def ConjC(a b d r s t e:Int):Prop:=(¬okC a b d/\r=0/\s=0/\t=0/\e=8)\/(okC a b d/\r=a/\s=-b/\t=d/\e=0)
theorem cconj_ok{h:AHeap}(hlow:h.low<=h.next){a b d:Int}{Q:Value->AHeap->Prop}
  (hQ:∀(r s t e:Int) h',ConjC a b d r s t e->Ext h h'->Q (.tuple #[.agg #[.int .i64 r,.int .i64 s,.int .i64 t],.int .i64 e]) h'):call 45 [.agg #[.int .i64 a,.int .i64 b,.int .i64 d]] h Q:=by
 refine hA.bodyR Try.func45 r45_ok (hA.alike _ _ _ rfl) hlow (zc ?_);refine ccheck_ok hA hlow (fun e h1 k1 x1=>⟨_,rfl,?_⟩);refine zc ?_;refine br (e≠0) (by rw[e_neq hA]) (fun c=>?_) (fun c=>?_)<;>refine zc ?_
 ·rcases k1 with ⟨q,_⟩|⟨q,w⟩
  ·exact absurd q c
  ·rw[q];exact hQ _ _ _ _ _ (.inl ⟨w,rfl,rfl,rfl,rfl⟩) x1
 have hz:okC a b d:=by
  rcases k1 with ⟨_,q⟩|⟨q,_⟩
  ·exact q
  ·omega
 obtain⟨z,hz'⟩:=id hz;have e1:neg .i64 b=-b:=by rw[e_neg hA,wrap64 (by have:=hz'.b2;omega) (by have:=hz'.b1;omega)];omega
 rw[e1];exact hQ _ _ _ _ _ (.inr ⟨hz,rfl,rfl,rfl,rfl⟩) x1
