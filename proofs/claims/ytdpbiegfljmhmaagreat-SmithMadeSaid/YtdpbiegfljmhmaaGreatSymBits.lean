import Derived.Test.YtdpbiegfljmhmaaGreatSymI
import Derived.Test.YtdpbiegfljmhmaaGreatSeatF
import Derived.KernelRfl
set_option linter.unusedSimpArgs false
set_option linter.unusedVariables false
namespace Go.Proofs.YtdpbiegfljmhmaaGreat
def fits(q:Rat):Prop:=-1000000000000000000<=q.num/\q.num<=1000000000000000000/\(q.den:Int)<=1000000000000000000
def gA(n d:Int)(q:Rat):Prop:=n=q.num/\d=q.den/\fits q
def okF(n d:Int):Prop:=∃q,gA n d q
def oK(q:Rat)(n d e:Int):Prop:=(fits q/\n=q.num/\d=q.den/\e=0)\/(¬fits q/\n=0/\d=0/\e=16)
theorem gA.uniq{n d:Int}{p q:Rat}(h:gA n d p)(k:gA n d q):p=q:=by
 obtain⟨h1,h2,_⟩:=h;obtain⟨k1,k2,_⟩:=k;exact Rat.ext om om
theorem oK.uniq{q:Rat}{n d e n' d' e':Int}(h:oK q n d e)(k:oK q n' d' e'):n=n'/\d=d'/\e=e':=by
 rcases h with ⟨a,rfl,rfl,rfl⟩|⟨a,rfl,rfl,rfl⟩<;>rcases k with ⟨b,rfl,rfl,rfl⟩|⟨b,rfl,rfl,rfl⟩
 ·exact⟨rfl,rfl,rfl⟩
 ·exact absurd a b
 ·exact absurd b a
 ·exact⟨rfl,rfl,rfl⟩
theorem gA.den{n d:Int}{q:Rat}(h:gA n d q):1<=d:=by
 have:=q.den_pos;have:=h.2.1;omega
theorem sY(n d:Int):okF n d↔1<=d/\d<=1000000000000000000/\-1000000000000000000<=n/\n<=1000000000000000000/\Int.gcd n d=1:=by
 constructor
 ·rintro⟨q,rfl,rfl,h1,h2,h3⟩
  have:=q.den_pos;refine⟨om,h3,h1,h2,?_⟩;have:=q.reduced;unfold Nat.Coprime at this;unfold Int.gcd;simpa using this
 ·rintro⟨h1,h2,h3,h4,h5⟩
  refine⟨⟨n,d.toNat,om,?_⟩,rfl,?_,h3,h4,?_⟩
  ·unfold Nat.Coprime
   unfold Int.gcd at h5;rw[show d.toNat=d.natAbs by omega];exact h5
  ·show d=((d.toNat:Nat):Int);omega
  ·show((d.toNat:Nat):Int)<=_;omega
theorem I7(p q:Rat):(p*q).num.natAbs=p.num.natAbs / Nat.gcd p.num.natAbs q.den*(q.num.natAbs / Nat.gcd q.num.natAbs p.den)/\(p*q).den=p.den / Nat.gcd q.num.natAbs p.den*(q.den / Nat.gcd p.num.natAbs q.den):=by
 have e:p*q=Rat.mul p q:=rfl;constructor
 ·rw[e]
  delta Rat.mul
  simp only[Int.divExact_eq_tdiv,Int.natAbs_mul,Int.natAbs_tdiv];rfl
 ·rw[e]
  delta Rat.mul
  simp
theorem Bs(q:Rat):q.num<0↔q<0:=by
 rw[<-Int.not_le,Rat.num_nonneg,Rat.not_le]
theorem Hl(q:Rat):0<q.num↔0<q:=by
 have h:=Rat.num_nonneg (q:=q);have k:=Rat.num_eq_zero (q:=q);constructor
 ·intro w
  have h1:¬q=0:=fun w2=>by rw[<-k]at w2;omega
  have:=h.1 om;grind
 ·intro w
  have h1:¬q.num=0:=fun w2=>by rw[k]at w2;grind
  have:0<=q.num:=h.2 (by grind);omega
theorem Ln(p q:Rat):(p*q).num<0↔(p.num<0/\0<q.num)\/(0<p.num/\q.num<0):=by
 rw[Bs,Bs,Bs,Hl,Hl];rcases(show p<0\/p=0\/0<p by grind)with a|a|a
 ·have h1:p*q=(-p)*(-q):=by grind
  rw[h1,Rat.mul_neg_iff_of_pos_left (by grind)];grind
 ·subst a;simp
 ·rw[Rat.mul_neg_iff_of_pos_left a]
  grind
theorem I8(p q:Rat){d:Nat}(hd:d=Nat.gcd p.den q.den){T:Int}(hT:T=p.num*(q.den / d:Nat)+q.num*(p.den / d:Nat)){g:Nat}(hg:g=Nat.gcd d T.natAbs) :
  (p+q).num=T / g/\(p+q).den=p.den / d*(q.den / g):=by
 have hdp:0<d:=by rw[hd];exact Nat.gcd_pos_of_pos_left _ p.den_pos
 have Hm:d∣p.den:=by rw[hd];exact Nat.gcd_dvd_left ..
 have TD:d∣q.den:=by rw[hd];exact Nat.gcd_dvd_right ..
 have hz:p.den / d*q.den≠0:=Nat.ne_of_gt (Nat.mul_pos (Nat.div_pos (Nat.le_of_dvd p.den_pos Hm) hdp) q.den_pos);have e:p+q=Rat.normalize T (p.den / d*q.den) hz:=by
  rw[Rat.add_def,Rat.normalize_eq_iff];have e1:((p.den / d:Nat):Int)*d=p.den:=by rw[<-Int.natCast_mul,Nat.div_mul_cancel Hm]
  have e2:((q.den / d:Nat):Int)*d=q.den:=by rw[<-Int.natCast_mul,Nat.div_mul_cancel TD]
  rw[hT];simp only[Int.natCast_mul];generalize ((p.den / d:Nat):Int)=u at *;generalize ((q.den / d:Nat):Int)=v at *;rw[<-e1,<-e2];grind
 have ha:=Rat.add.aux p q hd rfl rfl;simp only[]at ha;rw[<-hT]at ha;have vr:T.natAbs.gcd (p.den / d*q.den)=g:=by rw[<-ha,hg,Nat.gcd_comm]
 rw[e,Rat.num_normalize,Rat.den_normalize,vr];refine⟨rfl,?_⟩;have YJ:g∣q.den:=Nat.dvd_trans (by rw[hg];exact Nat.gcd_dvd_left ..) TD;rw[Nat.mul_div_assoc _ YJ]
theorem gA.val{n d:Int}{q:Rat}(h:gA n d q):q=(n:Rat) / (d:Rat):=by
 obtain⟨rfl,rfl,_⟩:=h;have:=Rat.num_divInt_den q;rw[Rat.divInt_eq_div]at this;exact this.symm
theorem Ai{y y1 y0 q:Int}(hy:y=y1*4294967296+y0):q*y=4294967296*(q*y1)+q*y0:=by rw[hy];grind
theorem j9{q y y1 y0 u d N r:Int}(hy:y=y1*4294967296+y0)(hr:r=u-q*y1)(hN:N=u*4294967296+d):q*y0>4294967296*r+d↔N<q*y:=by
 have e1:=Ai (q:=q) hy;omega
theorem pN{q y N:Int}(hy:0<y):N<q*y↔N / y<q:=(Int.ediv_lt_iff_lt_mul hy).symm
theorem Aj{y y1 y0 u d N:Int}(hy:y=y1*4294967296+y0)(h1:0<y1)(h0:0<=y0)(hu:0<=u)(hd:0<=d)(Hm:d<4294967296)(hN:N=u*4294967296+d):N / y<=u / y1:=by
 have hyp:0<y:=om
 have hq:0<=N / y:=Int.ediv_nonneg om om;have h2:N / y*y<=N:=Int.ediv_mul_le _ om;have e1:=Ai (q:=N / y) hy;have h3:0<=N / y*y0:=Int.mul_nonneg hq h0;have h4:N / y*y1<=u:=om
 exact(Int.le_ediv_iff_mul_le h1).2 h4
theorem Ak{y u d N:Int}(hy:0<y)(hu:u<y)(Hm:d<4294967296)(hN:N=u*4294967296+d):N / y<4294967296:=by
 rw[Int.ediv_lt_iff_lt_mul hy];omega
theorem sZ{y y1 y0 u:Int}(hy:y=y1*4294967296+y0)(h1:2147483648<=y1)(h0:y0<4294967296)(hu:u<y)(hu0:0<=u):u / y1<=4294967297:=by
 have:u / y1<4294967298:=by
  rw[Int.ediv_lt_iff_lt_mul om];omega
 omega
theorem OR{a b q r:Int}(hb:0<b)(h:a=q*b+r)(h0:0<=r)(h1:r<b):a / b=q/\a % b=r:=by
 constructor
 ·rw[h,Int.add_comm,Int.add_mul_ediv_right _ _ om,Int.ediv_eq_zero_of_lt h0 h1];omega
 ·rw[h,Int.add_comm,Int.add_mul_emod_self_right,Int.emod_eq_of_lt h0 h1]
theorem kz{a b:Int}(M N:Int)(a0:0<=a)(a1:a<=M)(b0:0<=b)(b1:b<=N):0<=a*b/\a*b<=M*N:=
 ⟨Int.mul_nonneg a0 b0,Int.mul_le_mul a1 b1 b0 om⟩
theorem FV(x1 x0 y1 y0:Int):(x1*4294967296+x0)*(y1*4294967296+y0)=18446744073709551616*(x1*y1)+4294967296*(x1*y0)+4294967296*(x0*y1)+x0*y0:=by grind
theorem Lo{x y:Int}(Sf:0<=x)(zS:x<18446744073709551616)(NU:0<=y)(Lp:y<18446744073709551616){a b c d t w:Int}
  (ha:a=x % 4294967296*(y % 4294967296)) (hb:b=x / 4294967296*(y % 4294967296)) (hc:c=x % 4294967296*(y / 4294967296)) (hd:d=x / 4294967296*(y / 4294967296)) (ht:t=b+a / 4294967296) (hw:w=t % 4294967296+c) :
  (0<=a/\a<=18446744065119617025)/\(0<=b/\b<=18446744065119617025)/\(0<=c/\c<=18446744065119617025)/\(0<=d/\d<=18446744065119617025)/\x*y=18446744073709551616*d+4294967296*b+4294967296*c+a/\d+t / 4294967296+w / 4294967296=x*y / 18446744073709551616:=by
 have m1:=kz 4294967295 4294967295 (a:=x % 4294967296) (b:=y % 4294967296) om om om om;have m2:=kz 4294967295 4294967295 (a:=x / 4294967296) (b:=y % 4294967296) om om om om;have m3:=kz 4294967295 4294967295 (a:=x % 4294967296) (b:=y / 4294967296) om om om om;have m4:=kz 4294967295 4294967295 (a:=x / 4294967296) (b:=y / 4294967296) om om om om;have e:=FV (x / 4294967296) (x % 4294967296) (y / 4294967296) (y % 4294967296);rw[show x / 4294967296*4294967296+x % 4294967296=x by omega,show y / 4294967296*4294967296+y % 4294967296=y by omega,<-ha,<-hb,<-hc,<-hd]at e;rw[<-ha]at m1;rw[<-hb]at m2;rw[<-hc]at m3;rw[<-hd]at m4;refine⟨om,om,om,om,e,?_⟩;rw[e];omega
theorem Lq{X y P Q r:Int}(hP:0<P)(hy:0<y)(h:X*P=Q*(y*P)+r)(r0:0<=r)(r1:r<y*P):Q=X / y/\r / P=X % y:=by
 have hyP:0<y*P:=Int.mul_pos hy hP;obtain⟨e1,e2⟩:=OR hyP h r0 r1;rw[Int.mul_ediv_mul_of_pos_left _ _ hP]at e1;rw[Int.mul_comm X P,Int.mul_comm y P,Int.mul_emod_mul_of_pos _ _ hP,Int.mul_comm]at e2;refine⟨e1.symm,?_⟩;rw[<-e2,Int.mul_ediv_cancel _ om]
theorem FW{N1 y q1 q0 u1 u0 N:Int}(hy:0<y)(h1:q1=N1 / y)(h2:q0=(N1 % y*4294967296+u0) / y)(hN:N=N1*4294967296+u0):N=(q1*4294967296+q0)*y+(N1 % y*4294967296+u0) % y/\0<=(N1 % y*4294967296+u0) % y/\(N1 % y*4294967296+u0) % y<y:=by
 have a:=Int.mul_ediv_add_emod N1 y;have b:=Int.mul_ediv_add_emod (N1 % y*4294967296+u0) y;rw[<-h1]at a;rw[<-h2]at b;refine⟨?_,Int.emod_nonneg _ om,Int.emod_lt_of_pos _ hy⟩;have e:(q1*4294967296+q0)*y=4294967296*(y*q1)+y*q0:=by grind
 rw[e,hN];omega
theorem OS{lo:Int}(h0:0<=lo){s:Nat}(hs:s<=64):lo*2 ^ s=lo / 2 ^ (64-s)*18446744073709551616+lo*2 ^ s % 18446744073709551616/\lo*2 ^ s / 18446744073709551616=lo / 2 ^ (64-s):=by
 have e:(18446744073709551616:Int)=2 ^ (64-s)*2 ^ s:=by
  rw[<-Int.pow_add,show 64-s+s=64 by omega];rfl
 have hp:(0:Int)<2 ^ s:=Int.pow_pos om;have d:lo*2 ^ s / 18446744073709551616=lo / 2 ^ (64-s):=by
  rw[e,Int.mul_ediv_mul_of_pos_left _ _ hp]
 refine⟨?_,d⟩;rw[<-d];omega
theorem s7{a b:Int}(ha:0<=a)(hb:0<=b):Int.gcd a b=Nat.gcd a.toNat b.toNat:=by
 unfold Int.gcd;rw[show a.natAbs=a.toNat by omega,show b.natAbs=b.toNat by omega]
theorem kP{a b:Nat}:((a / b:Nat):Int)=(a:Int) / (b:Int):=Int.natCast_ediv a b
theorem mX{an ad bn bd:Int}{p q:Rat}(hp:gA an ad p)(hq:gA bn bd q){d:Int}(hd:d=Int.gcd ad bd){A B T:Int}(hA:A=an.natAbs*(bd / d))(hB:B=bn.natAbs*(ad / d)){neg:Bool}
  (hT:((an<0↔bn<0)/\T=A+B/\(neg=true↔an<0))\/(¬(an<0↔bn<0)/\B<=A/\T=A-B/\(neg=true↔an<0))\/(¬(an<0↔bn<0)/\A<B/\T=B-A/\(neg=true↔bn<0)))
  {g:Int} (hg:g=Int.gcd d (T % d)):(p+q).num=(if neg=true then -(T / g)else T / g)/\((p+q).den:Int)=ad / d*(bd / g)/\0<g/\g<=d/\0<=T/\0<d/\d<=ad:=by
 obtain⟨rfl,rfl,_⟩:=hp;obtain⟨rfl,rfl,_⟩:=hq;have pd:=p.den_pos;have qd:=q.den_pos;obtain⟨D,hD⟩:∃D:Nat,D=Nat.gcd p.den q.den:=⟨_,rfl⟩;have hdD:d=D:=by rw[hd,hD];rfl
 have hDp:0<D:=by rw[hD];exact Nat.gcd_pos_of_pos_left _ pd
 have hDle:D<=p.den:=by rw[hD];exact Nat.gcd_le_left _ pd
 subst hdD;rw[<-kP]at hA hB;obtain⟨S,hS⟩:∃S:Int,S=p.num*(q.den / D:Nat)+q.num*(p.den / D:Nat):=⟨_,rfl⟩;obtain⟨G,hG⟩:∃G:Nat,G=Nat.gcd D S.natAbs:=⟨_,rfl⟩;have key:=I8 p q hD hS hG;have u0:(0:Int)<=(q.den / D:Nat):=Int.natCast_nonneg _;have v0:(0:Int)<=(p.den / D:Nat):=Int.natCast_nonneg _;have hAn:0<=A:=by rw[hA];exact Int.mul_nonneg (Int.natCast_nonneg _) u0
 have hBn:0<=B:=by rw[hB];exact Int.mul_nonneg (Int.natCast_nonneg _) v0
 have e1:p.num*(q.den / D:Nat)=if p.num<0 then -A else A:=by
  rw[hA];split
  ·rw[show(p.num.natAbs:Int)=-p.num by omega,Int.neg_mul];omega
  ·rw[show(p.num.natAbs:Int)=p.num by omega]
 have e2:q.num*(p.den / D:Nat)=if q.num<0 then -B else B:=by
  rw[hB];split
  ·rw[show(q.num.natAbs:Int)=-q.num by omega,Int.neg_mul];omega
  ·rw[show(q.num.natAbs:Int)=q.num by omega]
 rw[e1,e2]at hS;have Uc:0<=T:=by
  rcases hT with ⟨_,h,_⟩|⟨_,_,h,_⟩|⟨_,_,h,_⟩<;>omega
 have hST:S=if neg=true then -T else T:=by
  rcases hT with ⟨h,h2,h3⟩|⟨h,h1,h2,h3⟩|⟨h,h1,h2,h3⟩
  ·by_cases c:p.num<0
   ·rw[if_pos c,if_pos (h.1 c)]at hS
    rw[if_pos (h3.2 c)];omega
   ·rw[if_neg c,if_neg (fun w=>c (h.2 w))]at hS
    rw[if_neg (fun w=>c (h3.1 w))];omega
  ·by_cases c:p.num<0
   ·have c2:¬q.num<0:=fun w=>h ⟨fun _=>w,fun _=>c⟩
    rw[if_pos c,if_neg c2]at hS;rw[if_pos (h3.2 c)];omega
   ·have c2:q.num<0:=by
     by_cases w:q.num<0
     ·exact w
     ·exact absurd ⟨fun x=>absurd x c,fun x=>absurd x w⟩ h
    rw[if_neg c,if_pos c2]at hS;rw[if_neg (fun w=>c (h3.1 w))];omega
  ·by_cases c:p.num<0
   ·have c2:¬q.num<0:=fun w=>h ⟨fun _=>w,fun _=>c⟩
    rw[if_pos c,if_neg c2]at hS;rw[if_neg (fun w=>c2 (h3.1 w))];omega
   ·have c2:q.num<0:=by
     by_cases w:q.num<0
     ·exact w
     ·exact absurd ⟨fun x=>absurd x c,fun x=>absurd x w⟩ h
    rw[if_neg c,if_pos c2]at hS;rw[if_pos (h3.2 c2)];omega
 have hSa:S.natAbs=T.toNat:=by rw[hST];split<;>omega
 have hgG:g=G:=by
  rw[hg,hG,hSa];have m0:0<=T % (D:Int):=Int.emod_nonneg _ om;rw[s7 om m0];have e3:(T % (D:Int)).toNat=T.toNat % D:=by
   have:((T.toNat % D:Nat):Int)=T % (D:Int):=by
    rw[Int.natCast_emod,Int.toNat_of_nonneg Uc]
   omega
  rw[e3,Int.toNat_natCast,Nat.gcd_comm,<-Nat.gcd_rec]
 have hGp:0<G:=by rw[hG];exact Nat.gcd_pos_of_pos_left _ hDp
 have hGle:G<=D:=by rw[hG];exact Nat.gcd_le_left _ hDp
 have hGd:(G:Int)∣T:=by
  have:G∣T.toNat:=by rw[<-hSa,hG];exact Nat.gcd_dvd_right ..
  have:=Int.natCast_dvd_natCast.2 this
  rwa [Int.toNat_of_nonneg Uc]at this
 subst hgG;refine⟨?_,?_,om,om,Uc,om,om⟩
 ·rw[key.1,hST]
  split
  ·rw[Int.neg_ediv_of_dvd hGd]
  ·rfl
 ·rw[key.2,Int.natCast_mul,kP,kP]
theorem DC{an ad bn bd:Int}{p q:Rat}(hp:gA an ad p)(hq:gA bn bd q){g h:Int}(hg:g=Int.gcd an.natAbs bd)(hh:h=Int.gcd bn.natAbs ad){neg:Bool}(hn:neg=true↔¬(an<0↔bn<0)) :
  (p*q).num=(if neg=true then -(an.natAbs / g*(bn.natAbs / h))else an.natAbs / g*(bn.natAbs / h))/\((p*q).den:Int)=ad / h*(bd / g)/\0<g/\g<=bd/\0<h/\h<=ad:=by
 obtain⟨rfl,rfl,_⟩:=hp;obtain⟨rfl,rfl,_⟩:=hq;have pd:=p.den_pos;have qd:=q.den_pos;have vr:g=(Nat.gcd p.num.natAbs q.den:Nat):=hg;have zh:h=(Nat.gcd q.num.natAbs p.den:Nat):=hh;have g0:0<Nat.gcd p.num.natAbs q.den:=Nat.gcd_pos_of_pos_right _ qd;have h0:0<Nat.gcd q.num.natAbs p.den:=Nat.gcd_pos_of_pos_right _ pd;have g1:Nat.gcd p.num.natAbs q.den<=q.den:=Nat.gcd_le_right _ qd;have h1:Nat.gcd q.num.natAbs p.den<=p.den:=Nat.gcd_le_right _ pd;obtain⟨k1,k2⟩:=I7 p q;have ks:=Ln p q;rw[vr,zh,<-kP,<-kP,<-kP,<-kP,<-Int.natCast_mul,<-Int.natCast_mul,<-k1,<-k2];refine⟨?_,rfl,om,om,om,om⟩;by_cases z:(p*q).num=0
 ·rw[z];simp
 have zp:p.num≠0:=fun w=>z (by
  have:p=0:=Rat.num_eq_zero.1 w;rw[this,Rat.zero_mul];rfl)
 have zq:q.num≠0:=fun w=>z (by
  have:q=0:=Rat.num_eq_zero.1 w;rw[this,Rat.mul_zero];rfl)
 by_cases c:neg=true
 ·rw[if_pos c]
  have:=hn.1 c;have:(p*q).num<0:=ks.2 om;omega
 ·rw[if_neg c]
  have h2:(p.num<0↔q.num<0):=Classical.byContradiction fun w=>c (hn.2 w)
  have:¬(p*q).num<0:=fun w=>by have:=ks.1 w;omega
  omega
theorem I9{n d:Int}(hd:d≠0){g:Int}(hg:g=Int.gcd n d){neg:Bool}(hn:neg=true↔¬(n<0↔d<0)):((n:Rat) / (d:Rat)).num=(if neg=true then -((n.natAbs:Int) / g)else(n.natAbs:Int) / g)/\((((n:Rat) / (d:Rat)).den:Nat):Int)=(d.natAbs:Int) / g/\0<g/\g<=d.natAbs:=by
 have Ls:0<Int.gcd n d:=Int.gcd_pos_of_ne_zero_right _ hd;have YJ:Int.gcd n d∣d.natAbs:=by unfold Int.gcd;exact Nat.gcd_dvd_right ..
 have hgn:Int.gcd n d∣n.natAbs:=by unfold Int.gcd;exact Nat.gcd_dvd_left ..
 have hle:Int.gcd n d<=d.natAbs:=Nat.le_of_dvd om YJ;subst hg;rw[<-Rat.divInt_eq_div];have hc:Int.gcd d n=Int.gcd n d:=Int.gcd_comm ..;refine⟨?_,?_,om,om⟩
 ·rw[Rat.num_divInt,hc]
  have YK:((Int.gcd n d:Nat):Int)∣n:=Int.gcd_dvd_left ..;obtain⟨k,hk⟩:=YK;have hG:(0:Int)<(Int.gcd n d:Int):=om
  generalize (Int.gcd n d:Int)=G at *;have e1:(n.natAbs:Int)=G*k.natAbs:=by rw[hk,Int.natAbs_mul,Int.natCast_mul,show(G.natAbs:Int)=G by omega]
  have e2:(n.natAbs:Int) / G=k.natAbs:=by rw[e1,Int.mul_ediv_cancel_left _ om]
  have e3:d.sign*n / G=d.sign*k:=by rw[hk,Int.mul_left_comm,Int.mul_ediv_cancel_left _ om]
  have hs:(n<0↔k<0):=by
   rw[hk];constructor
   ·intro w
    by_cases c:k<0
    ·exact c
    ·have:=Int.mul_nonneg (show 0<=G by omega) (show 0<=k by omega)
     omega
   ·intro w
    have:=Int.mul_pos hG (show 0 < -k by omega);rw[Int.mul_neg]at this;omega
  rw[e2,e3];rcases Int.lt_trichotomy d 0 with c|c|c
  ·rw[Int.sign_eq_neg_one_of_neg c]
   by_cases w:n<0
   ·rw[if_neg (fun q=>hn.1 q ⟨fun _=>c,fun _=>w⟩)]
    omega
   ·rw[if_pos (hn.2 (fun q=>w (q.2 c)))]
    omega
  ·exact absurd c hd
  ·rw[Int.sign_eq_one_of_pos c]
   by_cases w:n<0
   ·rw[if_pos (hn.2 (fun q=>by have:=q.1 w;omega))]
    omega
   ·rw[if_neg (fun q=>hn.1 q ⟨fun x=>absurd x w,fun x=>om⟩)]
    omega
 ·rw[Rat.den_divInt,if_neg hd,hc,kP]
theorem gA.neg{n d:Int}{q:Rat}(h:gA n d q):gA (-n) d (-q):=by
 obtain⟨rfl,rfl,h1,h2,h3⟩:=h;exact⟨rfl,rfl,by unfold fits;rw[Rat.neg_num,Rat.neg_den];omega⟩
def Sg(p q:Rat):Int:=if p<q then -1 else if p=q then 0 else 1
theorem OT{p q:Rat}{c:Int}(hc:c=if p.num*q.den<q.num*p.den then -1 else if p.num*q.den=q.num*p.den then 0 else 1):c=Sg p q:=by
 rw[hc];unfold Sg;have e1:=Rat.lt_iff p q;have e2:p=q↔p.num*q.den=q.num*p.den:=Rat.eq_iff_mul_eq_mul;by_cases h:p<q
 ·rw[if_pos h,if_pos (e1.1 h)]
 ·rw[if_neg h,if_neg (fun w=>h (e1.2 w))]
  by_cases k:p=q
  ·rw[if_pos k,if_pos (e2.1 k)]
  ·rw[if_neg k,if_neg (fun w=>k (e2.2 w))]
open Go.cS
set_option maxRecDepth 100000
theorem Lt:Tryz.prog.eqGuardType Tryz.prog.depth 43=false:=by kernel_rfl
theorem eqF(a b a' b':Int):∃r,oM Tryz.prog 30 43 (.agg #[.int .i64 a,.int .i64 b]) (.agg #[.int .i64 a',.int .i64 b'])=some r/\(r=true↔a=a'/\b=b'):=by
 have h3:Tryz.prog.underlying 2=some (.int .i64):=by kernel_rfl
 have tU:Tryz.prog.stoodInHeld 43=false:=by kernel_rfl
 have i3:iE Tryz.prog 2=some false:=by kernel_rfl
 have e3:∀(n:Nat) (x y:Int),oM Tryz.prog (n+1) 2 (.int .i64 x) (.int .i64 y)=some (x == y):=by
  intro n x y;unfold oM;rw[h3];simp
 have key:oM Tryz.prog (28+1+1) 43 (.agg #[.int .i64 a,.int .i64 b]) (.agg #[.int .i64 a',.int .i64 b'])=some ((a == a') && (b == b')):=by
  unfold oM;rw[Tryz.underlying43];have NV:∀(x y:Int),oM Tryz.prog 29 2 (.int .i64 x) (.int .i64 y)=some (x == y):=e3 28;simp only[tU,cond_false,List.foldr,kB,i3,List.getElem?_cons_zero,List.getElem?_cons_succ,NV,String.reduceEq,if_false];cases a == a'<;>cases b == b'<;>rfl
 refine⟨_,key,?_⟩;simp only[Bool.and_eq_true,beq_iff_eq]
theorem FX:Tryz.prog.eqGuardType Tryz.prog.depth 91=false:=by kernel_rfl
theorem YL(a b c d:Int):∃r,oM Tryz.prog 30 91 (.agg #[.int .u64 a,.int .u64 b,.int .u64 c,.int .u64 d]) (.agg #[.int .u64 0,.int .u64 0,.int .u64 0,.int .u64 0])=some r/\(r=true↔a=0/\b=0/\c=0/\d=0):=by
 have h3:Tryz.prog.underlying 85=some (.int .u64):=by kernel_rfl
 have h4:Tryz.prog.underlying 89=some (.array 4 85):=by kernel_rfl
 have tU:Tryz.prog.stoodInHeld 91=false:=by kernel_rfl
 have i3:iE Tryz.prog 85=some false:=by kernel_rfl
 have i4:iE Tryz.prog 89=some true:=by kernel_rfl
 have s3:bS Tryz.prog 85=some 1:=by kernel_rfl
 have s4:bS Tryz.prog 89=some 4:=by kernel_rfl
 have e3:∀(n:Nat) (x y:Int),oM Tryz.prog (n+1) 85 (.int .u64 x) (.int .u64 y)=some (x == y):=by
  intro n x y;unfold oM;rw[h3];simp
 have e4:oM Tryz.prog (28+1) 89 (.agg #[.int .u64 a,.int .u64 b,.int .u64 c,.int .u64 d]) (.agg #[.int .u64 0,.int .u64 0,.int .u64 0,.int .u64 0])=some ((a == 0) && ((b == 0) && ((c == 0) && (d == 0)))):=by
  unfold oM;rw[h4];have NV:∀(x y:Int),oM Tryz.prog 28 85 (.int .u64 x) (.int .u64 y)=some (x == y):=e3 27;simp only[s3,List.range,List.range.loop,List.foldr,kB,i3,List.getElem?_cons_zero,List.getElem?_cons_succ,NV,Nat.mul_one];cases a == 0<;>cases b == 0<;>cases c == 0<;>cases d == 0<;>rfl
 have key:oM Tryz.prog (28+1+1) 91 (.agg #[.int .u64 a,.int .u64 b,.int .u64 c,.int .u64 d]) (.agg #[.int .u64 0,.int .u64 0,.int .u64 0,.int .u64 0])=some ((a == 0) && ((b == 0) && ((c == 0) && (d == 0)))):=by
  unfold oM;rw[Tryz.underlying91];have r4:∀w x y z:Value,jR [w,x,y,z] 0 4=some [w,x,y,z]:=fun _ _ _ _=>rfl
  simp only[tU,cond_false,List.foldr,kB,i4,s4,r4,String.reduceEq,if_false];rw[show(29:Nat)=28+1 from rfl,e4];cases((a == 0) && ((b == 0) && ((c == 0) && (d == 0))))<;>rfl
 refine⟨_,key,?_⟩;simp only[Bool.and_eq_true,beq_iff_eq]
structure Bx(Q:Prop):Prop where o:Q
theorem zc{P Q:Prop}(k:Q)(h:Bx Q->P:=by intro q;(try (conv=>cbv));(repeat (refine Lu hA ?_;(try (conv=>cbv))));exact q.o):P:=h ⟨k⟩
theorem zq{P Q:Prop}(k:Q)(h:Bx Q->P:=by intro q;((try (conv=>cbv));repeat ((first|refine Lu hA ?_|refine⟨kE hA om om,?_⟩|refine⟨_,_,rfl,kE hA om om,?_⟩|refine⟨dy hA om,?_⟩|refine⟨fu hA om,?_⟩|refine⟨U8 hA om,?_⟩|refine⟨s8 hA (by assumption),?_⟩|refine⟨s8 hA (.refl _),?_⟩|refine⟨_,‹rd _ _ _ _ _›,?_⟩|refine⟨_,_,‹rd _ _ _ _ _›,?_⟩|refine⟨_,_,_,‹rd _ _ _ _ _›,?_⟩|refine⟨_,_,_,_,‹rd _ _ _ _ _›,?_⟩|refine⟨_,‹wr _ _ _ _ _›,?_⟩);(try (conv=>cbv))));exact q.o):P:=h ⟨k⟩
structure AP(F:aZ)(A:bF):Prop extends AOK progU hint F A where
 alike:∀g args h,own g=false->F g args h=rM g args h
def sat(s:ByteArray)(i:Int):Int:=((s[i.toNat]?).getD 0).toNat
theorem yj{x:Int}(h1:0<=x)(h2:x<18446744073709551616):IntKind.wrap .u64 x=x:=by
 unfold IntKind.wrap;simp[IntKind.bits,IntKind.signed,IntKind.min,IntKind.max];omega
theorem nV(x:Int):IntKind.wrap .u64 x=x % 18446744073709551616:=by
 unfold IntKind.wrap;simp[IntKind.bits,IntKind.signed,IntKind.min,IntKind.max];try omega
theorem ofInt64{a:Int}(h0:0<=a)(h1:a<18446744073709551616):(BitVec.ofInt 64 a).toNat=a.toNat:=by
 rw[BitVec.toNat_ofInt]
 congr 1
 omega
theorem U9{a b:Int}(h0:0<=a)(h1:a<18446744073709551616)(g0:0<=b)(g1:b<18446744073709551616):(BitVec.ofInt 64 a &&& BitVec.ofInt 64 b).toNat=a.toNat &&& b.toNat:=by
 rw[BitVec.toNat_and,ofInt64 h0 h1,ofInt64 g0 g1]
theorem YM{a b:Int}(h0:0<=a)(h1:a<18446744073709551616)(g0:0<=b)(g1:b<18446744073709551616):(BitVec.ofInt 64 a ||| BitVec.ofInt 64 b).toNat=a.toNat ||| b.toNat:=by
 rw[BitVec.toNat_or,ofInt64 h0 h1,ofInt64 g0 g1]
theorem _root_.Go.cS.Ext.Bu{h h1 h2:af}(e:Ext h h2)(e1:Ext h h1)(hl:h.low<=h.next):Ext h (h2.az h1.low):=by
 have a:=e.vD;have b:=e1.vD;have c:=e.low hl;refine⟨e.next,fun _=>?_,?_,e.get⟩
 ·show Nat.min h1.low h2.low<=h2.next
  have:Nat.min h1.low h2.low<=h2.low:=Nat.min_le_right _ _;omega
 ·show Nat.min h.low h.next<=Nat.min h1.low h2.low
  exact Nat.le_min.2 ⟨b,a⟩
variable{F:aZ}{c0 d0 arith cmp e0 dH jz conv neg imax uf ofNat f0 place G6 nz KY rd wr push next vz nat iK i0 rj cut j0 k0 mS l0 app OA putAt fresh az aG wrote bX lt ne jX n0 rH yn o0 p0 s0 t0 w0 z0:_}(hA:AP F ⟨c0,d0,arith,cmp,e0,dH,jz,conv,neg,imax,uf,ofNat,f0,place,G6,nz,KY,rd,wr,push,next,vz,nat,iK,i0,rj,cut,j0,k0,mS,l0,app,OA,putAt,fresh,az,aG,wrote,bX,lt,ne,jX,n0,rH,yn,o0,p0,s0,t0,w0,z0⟩)
include hA
theorem Hn(k:IntKind)(a b:Int):arith .add k a b=k.wrap (a+b):=by have:=hA.eq;injections;subst_vars;rfl
theorem Lv(k:IntKind)(a b:Int):arith .sub k a b=k.wrap (a-b):=by have:=hA.eq;injections;subst_vars;rfl
theorem Lw(k:IntKind)(a b:Int):arith .mul k a b=k.wrap (a*b):=by have:=hA.eq;injections;subst_vars;rfl
theorem Al(k:IntKind)(a b:Int):arith .quo k a b=k.wrap (a.tdiv b):=by have:=hA.eq;injections;subst_vars;rfl
theorem DD(k:IntKind)(a b:Int):arith .rem k a b=a.tmod b:=by have:=hA.eq;injections;subst_vars;rfl
theorem aA(a b:Int):cmp .lss a b=decide (a<b):=by have:=hA.eq;injections;subst_vars;rfl
theorem jA(a b:Int):cmp .leq a b=decide (a<=b):=by have:=hA.eq;injections;subst_vars;rfl
theorem dc(a b:Int):cmp .gtr a b=decide (b<a):=by have:=hA.eq;injections;subst_vars;rfl
theorem bY(a b:Int):cmp .geq a b=decide (b<=a):=by have:=hA.eq;injections;subst_vars;rfl
theorem de(a b:Int):cmp .eql a b=decide (a=b):=by have:=hA.eq;injections;subst_vars;rfl
theorem bT(a b:Int):cmp .neq a b=decide (a≠b):=by
 have h:cmp .neq a b=(a != b):=by have:=hA.eq;injections;subst_vars;rfl
 rw[h];by_cases e:a=b<;>simp[e]
theorem aI(n:Nat):ofNat n=n:=by have:=hA.eq;injections;subst_vars;rfl
theorem fR(o:Nat)(i:Int)(n:Nat):place o i n=o+i.toNat*n:=by have:=hA.eq;injections;subst_vars;rfl
theorem Va(i:Int)(n:Nat):G6 i n=(0<=i/\i<n):=by have:=hA.eq;injections;subst_vars;rfl
theorem YN(b:Int):nz b=(b≠0):=by have:=hA.eq;injections;subst_vars;rfl
theorem Bv(h:af)(b o n:Nat)(l:List Value):rd h b o n l=(h.aM ⟨b,o,none⟩ n=some l):=by have:=hA.eq;injections;subst_vars;rfl
theorem Lx(h:af)(b o:Nat)(vs:List Value)(h':af):wr h b o vs h'=(h.write b o vs=some h'):=by have:=hA.eq;injections;subst_vars;rfl
theorem df(h:af)(es:Nat)(cs:List Value):push h es cs=h.push es cs:=by have:=hA.eq;injections;subst_vars;rfl
theorem cM(h:af):next h=h.next:=by have:=hA.eq;injections;subst_vars;rfl
theorem Sh(l c:Int):vz l c=(0<=l/\l<=c/\c<=1073741824):=by have:=hA.eq;injections;subst_vars;rfl
theorem Ho(i:Int):nat i=i.toNat:=by have:=hA.eq;injections;subst_vars;rfl
theorem OU(z:List Value)(c:Int):iK z c=bB z c.toNat:=by have:=hA.eq;injections;subst_vars;rfl
theorem bZ(b:Bool):dH b = !b:=by have:=hA.eq;injections;subst_vars;rfl
theorem Bw(a b:Bool):jz a b=(a == b):=by have:=hA.eq;injections;subst_vars;rfl
theorem rO(k:IntKind)(n:Int):conv k n=k.wrap n:=by have:=hA.eq;injections;subst_vars;rfl
theorem vc(k:IntKind)(n:Int):neg k n=k.wrap (0-n):=by have:=hA.eq;injections;subst_vars;rfl
theorem Ly(x y:Int):imax x y=if y>x then y else x:=by have:=hA.eq;injections;subst_vars;rfl
theorem Si(x y:Int):uf x y=if y<x then y else x:=by have:=hA.eq;injections;subst_vars;rfl
theorem vd(ts:List TypeId)(l:List Value)(h:af)(C:Option Addr->Nat->Nat->af->Prop):app ts l h C = ∃a n c h',cN Tryz.prog h ts l=some (.slice a n c,h')/\C a n c h':=by have:=hA.eq;injections;subst_vars;rfl
theorem Hp(ts:List TypeId)(l:List Value)(h:af)(C:Int->af->Prop):OA ts l h C = ∃n h',ss Tryz.prog h ts l=some (.int .i64 n,h')/\C n h':=by have:=hA.eq;injections;subst_vars;rfl
theorem Lz(c:Nat)(j:Int):cut c j=(0<=j/\j<=cL c):=by have:=hA.eq;injections;subst_vars;rfl
theorem qB(t:TypeId)(a b:Array Value)(C:Bool->Prop):rj t a b C=(Tryz.prog.eqGuardType Tryz.prog.depth t=false/\∃r,oM Tryz.prog 30 t (.agg a) (.agg b)=some r/\C r):=by have:=hA.eq;injections;subst_vars;rfl
theorem OV(s:ByteArray)(i:Int)(C:Int->Prop):mS s i C=(0<=i/\∃b:UInt8,s[i.toNat]?=some b/\C b.toNat):=by have:=hA.eq;injections;subst_vars;rfl
theorem OW(h:af)(id es:Nat)(cs:List Value):putAt h id es cs=h.putAt id es cs:=by have:=hA.eq;injections;subst_vars;rfl
theorem jQ(h:af):fresh h=h.dK:=by have:=hA.eq;injections;subst_vars;rfl
theorem fg(h h':af):az h h'=h'.az h.low:=by have:=hA.eq;injections;subst_vars;rfl
theorem nW(h:af)(n:Nat):aG h n=h.aG n:=by have:=hA.eq;injections;subst_vars;rfl
theorem By(h h':af):wrote h h'=Nat.blt h'.low h.next:=by have:=hA.eq;injections;subst_vars;rfl
theorem dj(a b:Nat):bX a b=a+b:=by have:=hA.eq;injections;subst_vars;rfl
theorem YO(a b:Nat):ne a b=(a≠b):=by have:=hA.eq;injections;subst_vars;rfl
theorem Bz(wx wy l:Bool)(b dD:Nat):jX wx wy l b dD=(wx=false/\wy=false/\(l=true\/b<dD)):=by have:=hA.eq;injections;subst_vars;rfl
theorem kE{i:Int}{n:Nat}(h0:0<=i)(h1:i<n):G6 i n:=by rw[Va hA];exact⟨h0,h1⟩
theorem aD{h:af}{b o:Nat}{i:Int}{es m:Nat}{l:List Value}(hr:h.aM ⟨b,o+i.toNat*es,none⟩ m=some l):rd h b (place o i es) m l:=by rw[Bv hA,fR hA];exact hr
theorem iS{h:af}{b o m:Nat}{l:List Value}(hr:h.aM ⟨b,o,none⟩ m=some l):rd h b o m l:=by rw[Bv hA];exact hr
theorem yk{h h':af}{b o:Nat}{i:Int}{es:Nat}{l:List Value}(hr:h.write b (o+i.toNat*es) l=some h'):wr h b (place o i es) l h':=by rw[Lx hA,fR hA];exact hr
theorem kF{h h':af}{b o:Nat}{l:List Value}(hr:h.write b o l=some h'):wr h b o l h':=by rw[Lx hA];exact hr
theorem dy{b:Int}(h:b≠0):nz b:=by rw[YN hA];exact h
theorem Vb{l c:Int}(h0:0<=l)(h1:l<=c)(h2:c<=1073741824):vz l c:=by rw[Sh hA];exact⟨h0,h1,h2⟩
theorem aF{a b:Int}(h1:-9223372036854775808<=a+b)(h2:a+b<9223372036854775808):arith .add .i64 a b=a+b:=by rw[Hn hA,wrap64 h1 h2]
theorem bP{a b:Int}(h1:-9223372036854775808<=a-b)(h2:a-b<9223372036854775808):arith .sub .i64 a b=a-b:=by rw[Lv hA,wrap64 h1 h2]
theorem jn{a b:Int}(h1:-9223372036854775808<=a*b)(h2:a*b<9223372036854775808):arith .mul .i64 a b=a*b:=by rw[Lw hA,wrap64 h1 h2]
theorem ve{a b:Int}(h0:0<=a)(h1:a<9223372036854775808)(hb:0<b):arith .quo .i64 a b=a / b:=by
 have h2:0<=a / b:=Int.ediv_nonneg h0 om;have h3:a / b<=a:=Int.ediv_le_self _ h0;rw[Al hA,Int.tdiv_eq_ediv_of_nonneg h0,wrap64 om om]
theorem vf{a:Int}(h0:0<=a)(h1:a<256):conv .u8 a=a:=by rw[rO hA,U2 h0 h1]
theorem kA{a:Int}(h0:-9223372036854775808<=a)(h1:a<9223372036854775808):conv .i64 a=a:=by rw[rO hA,wrap64 h0 h1]
theorem Sj{h h':af}{b dD n:Nat}(hw:h'=(h.aG n).dK)(hb:b<dD):jX false (wrote (aG h n) h') false b dD:=by
 rw[Bz hA,By hA,nW hA,hw];exact⟨rfl,zx _,.inr hb⟩
theorem LA{s:ByteArray}{i:Int}{C:Int->Prop}(h0:0<=i)(h1:i<s.size)(hC:∀c,c=sat s i->0<=c->c<256->C c):mS s i C:=by
 rw[OV hA];have hi:i.toNat<s.size:=om
 refine⟨h0,s[i.toNat],by simp[hi],?_⟩;refine hC _ (by unfold sat;simp[hi]) om ?_;have:=(s[i.toNat]).toNat_lt;omega
theorem FY{h:af}{b o:Nat}{i:Int}{es f m:Nat}{l:List Value}(hr:h.aM ⟨b,o+i.toNat*es+f,none⟩ m=some l):rd h b (bX (place o i es) f) m l:=by rw[Bv hA,fR hA,dj hA];exact hr
theorem OX{h:af}{b o f m:Nat}{l:List Value}(hr:h.aM ⟨b,o+f,none⟩ m=some l):rd h b (bX o f) m l:=by rw[Bv hA,dj hA];exact hr
theorem OY{h h':af}{b o f:Nat}{l:List Value}(hr:h.write b (o+f) l=some h'):wr h b (bX o f) l h':=by rw[Lx hA,dj hA];exact hr
theorem Lu{f:Unit->Prop}(h:f ()):rH f:=by have:=hA.eq;injections;subst_vars;exact h
theorem U8{a b:Nat}(h:a≠b):ne a b:=by rw[YO hA];exact h
theorem hH(X:af):Ext X (fresh X):=by rw[jQ hA];exact .dK _
theorem aB(X:af):(fresh X).low<=(fresh X).next:=by rw[jQ hA];exact Dx _
theorem cI{h X h':af}(hl:h.low<=h.next)(y:Ext h X)(z:Ext (fresh X) h'):Ext h (az X h'):=by
 rw[fg hA];exact Ext.Bu ((y.trans (hH hA X)).trans z) y hl
theorem bR{X:af}(hl:X.low<=X.next):az X (fresh X)=X:=by rw[fg hA,jQ hA];exact vE hl
theorem ym(a b:Int):dH (jz (cmp .lss a 0) (cmp .lss b 0))=true↔¬(a<0↔b<0):=by
 rw[bZ hA,Bw hA,aA hA,aA hA];by_cases h1:a<0<;>by_cases h2:b<0<;>simp[h1,h2]
theorem au(h:af)(n:Nat):Ext h (aG h n):=by rw[nW hA];exact .aG _ _
theorem LB(k:IntKind)(a b:Int):arith .and k a b=k.wrap (BitVec.ofInt k.bits a &&& BitVec.ofInt k.bits b).toNat:=by have:=hA.eq;injections;subst_vars;rfl
theorem YP(k:IntKind)(a b:Int):arith .or k a b=k.wrap (BitVec.ofInt k.bits a ||| BitVec.ofInt k.bits b).toNat:=by have:=hA.eq;injections;subst_vars;rfl
theorem Vc(k:IntKind)(a b:Int):arith .xor k a b=k.wrap (BitVec.ofInt k.bits a ^^^ BitVec.ofInt k.bits b).toNat:=by have:=hA.eq;injections;subst_vars;rfl
theorem QC(k:IntKind)(a b:Int):arith .shl k a b=k.wrap (a*2 ^ (min b.toNat k.bits)):=by have:=hA.eq;injections;subst_vars;rfl
theorem LC(k:IntKind)(a b:Int):arith .shr k a b=a.fdiv (2 ^ (min b.toNat k.bits)):=by have:=hA.eq;injections;subst_vars;rfl
theorem mE{a b:Int}(h1:0<=a+b)(h2:a+b<18446744073709551616):arith .add .u64 a b=a+b:=by rw[Hn hA,yj h1 h2]
theorem vF{a b:Int}(h1:0<=a-b)(h2:a-b<18446744073709551616):arith .sub .u64 a b=a-b:=by rw[Lv hA,yj h1 h2]
theorem nX{a b:Int}(h1:0<=a*b)(h2:a*b<18446744073709551616):arith .mul .u64 a b=a*b:=by rw[Lw hA,yj h1 h2]
theorem DE(a b:Int):arith .mul .u64 a b=a*b % 18446744073709551616:=by rw[Lw hA,nV]
theorem QD(a b:Int):arith .add .u64 a b=(a+b) % 18446744073709551616:=by rw[Hn hA,nV]
theorem QF(a b:Int):arith .sub .u64 a b=(a-b) % 18446744073709551616:=by rw[Lv hA,nV]
theorem jo{a b:Int}(h0:0<=a)(h1:a<18446744073709551616)(hb:0<b):arith .quo .u64 a b=a / b:=by
 have h2:0<=a / b:=Int.ediv_nonneg h0 om;have h3:a / b<=a:=Int.ediv_le_self _ h0;rw[Al hA,Int.tdiv_eq_ediv_of_nonneg h0,yj om om]
theorem OZ{a b:Int}(h0:0<=a):arith .rem .u64 a b=a % b:=by
 rw[DD hA,Int.tmod_eq_emod_of_nonneg h0]
theorem mj{a:Int}(h0:0<=a)(h1:a<18446744073709551616):conv .u64 a=a:=by rw[rO hA,yj h0 h1]
theorem Hq{a:Int}(h0:0<=a)(h1:a<18446744073709551616)(k:Nat){m:Int}(hk:k<=63)(hm:m=2 ^ k-1):arith .and .u64 a m=a % 2 ^ k:=by
 have KO:(0:Int)<2 ^ k:=Int.pow_pos om;have hp:(1:Int)<=2 ^ k:=om
 have YQ:(2:Int) ^ k<=2 ^ 63:=by
  have:=Nat.pow_le_pow_right (n:=2) om hk
  exact_mod_cast this
 have h63:(2:Int) ^ 63=9223372036854775808:=by rfl
 rw[LB hA];show IntKind.wrap .u64 _=_;have e:m.toNat=2 ^ k-1:=by
  have:((2 ^ k:Nat):Int)=2 ^ k:=by push_cast;rfl
  omega
 rw[show IntKind.bits .u64=64 from rfl,U9 h0 h1 om om,e,Nat.and_two_pow_sub_one_eq_mod];have e2:((a.toNat % 2 ^ k:Nat):Int)=a % 2 ^ k:=by
  push_cast
  rw[Int.toNat_of_nonneg h0]
 have h3:0<=a % 2 ^ k:=Int.emod_nonneg _ om;have h4:a % 2 ^ k<2 ^ k:=Int.emod_lt_of_pos _ om;rw[e2,yj h3 om]
theorem yo{a:Int}(h0:0<=a)(k:Nat)(hk:k<=64){b:Int}(hb:b=k):arith .shr .u64 a b=a / 2 ^ k:=by
 rw[LC hA,show IntKind.bits .u64=64 from rfl,hb,Int.toNat_natCast,Nat.min_eq_left hk,Int.fdiv_eq_ediv_of_nonneg _ (Int.le_of_lt (Int.pow_pos om))]
theorem FZ(a:Int)(k:Nat)(hk:k<=64){b:Int}(hb:b=k):arith .shl .u64 a b=a*2 ^ k % 18446744073709551616:=by
 rw[QC hA,show IntKind.bits .u64=64 from rfl,hb,Int.toNat_natCast,Nat.min_eq_left hk,nV]
theorem Xd{a b:Int}(k:Nat)(ha:0<=a)(mL:0<=b)(EE:b<2 ^ k)(h:a*2 ^ k+b<18446744073709551616):arith .or .u64 (a*2 ^ k) b=a*2 ^ k+b:=by
 have hp:(0:Int)<2 ^ k:=Int.pow_pos om;have hm:0<=a*2 ^ k:=Int.mul_nonneg ha om;rw[YP hA,show IntKind.bits .u64=64 from rfl,YM hm om mL om];have e1:(a*2 ^ k).toNat=2 ^ k*a.toNat:=by
  have:((2 ^ k*a.toNat:Nat):Int)=a*2 ^ k:=by
   push_cast
   rw[Int.toNat_of_nonneg ha,Int.mul_comm]
  omega
 have hk:((2 ^ k:Nat):Int)=2 ^ k:=by push_cast;rfl
 have e2:2 ^ k*a.toNat+b.toNat=2 ^ k*a.toNat ||| b.toNat:=Nat.two_pow_add_eq_or_of_lt om _;rw[e1,<-e2];have e3:((2 ^ k*a.toNat+b.toNat:Nat):Int)=a*2 ^ k+b:=by
  push_cast
  rw[Int.toNat_of_nonneg ha,Int.toNat_of_nonneg mL,Int.mul_comm]
 rw[e3,yj om om]
theorem fu{b:Int}(h:0<=b):KY b:=by
 have e:KY b=(0<=b):=by have:=hA.eq;injections;subst_vars;rfl
 rw[e];exact h
theorem nY{a:Int}(h0:0<=a)(h1:a<18446744073709551616):arith .and .u64 a 4294967295=a % 4294967296:=Hq hA h0 h1 32 om (by decide)
theorem pO{a:Int}(h0:0<=a):arith .shr .u64 a 32=a / 4294967296:=yo hA h0 32 om (by rfl)
