import Derived.Test.YtdpbiegfljmhmaaSmB
import Derived.Test.YtdpbiegfljmhmaaSmV
set_option linter.unusedSimpArgs false
set_option linter.unusedVariables false
namespace Go.Proofs.Ytdpbiegfljmhmaa.Ext
def bK(w:Nat)(F:Nat->aN)(c:Nat):Nat->aN->aN
 |0,v=>v
 |y+1,v=>if c<aj w (F y)then(fun j=>bK w F c y v j-bK w F c y v (aj w (F y)) / F y (aj w (F y))*F y j)else bK w F c y v
theorem Hk{a L R:Int}(hL:0<L)(h:a.natAbs<=(R*L).natAbs)(hR:0<=R):(a / L).natAbs<=R.natAbs:=by
 have h1:-(R*L)<=a/\a<=R*L:=by
  have:0<=R*L:=Int.mul_nonneg hR (Int.le_of_lt hL);omega
 have h2:a / L<=R:=Int.ediv_le_of_le_mul hL om;have h3:-R<=a / L:=Int.le_ediv_of_mul_le hL (by rw[Int.neg_mul];omega);omega
theorem iF{a b A B:Int}(ha:a.natAbs<=A.natAbs)(hb:b.natAbs<=B.natAbs)(hA:0<=A)(hB:0<=B):(a*b).natAbs<=(A*B).natAbs:=by
 rw[Int.natAbs_mul,Int.natAbs_mul];exact Nat.mul_le_mul ha hb
structure Old(w k a:Nat)(F:Nat->aN)(E:Int):Prop where
 le:∀z,a<=z->z<k->∀j,(F z j).natAbs<=E.natAbs
 red:∀y z,a<=y->y<z->z<k->0<=F y (aj w (F z))/\F y (aj w (F z))<F z (aj w (F z))
theorem Old.NV{w k a a':Nat}{F:Nat->aN}{E:Int}(h:Old w k a F E)(ha:a<=a'):Old w k a' F E:=
 ⟨fun z hz hk=>h.le z om hk,fun y z hy hz hk=>h.red y z om hz hk⟩
structure aaR(w k a y:Nat)(F:Nat->aN)(E N Q:Int)(v u:aN):Prop where
 red:∀z,a<=z->z<y->0<=u (aj w (F z))/\u (aj w (F z))<F z (aj w (F z))
 lead:∀z,y<=z->a<=z->z<k->(u (aj w (F z))).natAbs<=(Q*2 ^ (y-a)*F z (aj w (F z))).natAbs
 le:∀j,(u j).natAbs<=(N+(Q*2 ^ (y-a)-Q)*E).natAbs
 cJ:∀j,(∀z,a<=z->z<k->j<aj w (F z))->u j=v j
theorem sq{w k a c:Nat}{F:Nat->aN}{E N Q:Int}{v:aN}(hs:Br w k F)(hE:0<=E)(hN:0<=N)(hQ:0<=Q)(ho:Old w k a F E)(ha:∀z,z<a->z<k->aj w (F z)<=c)(hc:∀z,a<=z->z<k->c<aj w (F z))
  (hv:∀j,(v j).natAbs<=N.natAbs) (hl:∀z,a<=z->z<k->(v (aj w (F z))).natAbs<=(Q*F z (aj w (F z))).natAbs):∀y,y<=k->aaR w k a y F E N Q v (bK w F c y v)
 |0,_=>by
  refine⟨fun z h1 h2=>om,fun z _ h1 h2=>?_,fun j=>?_,fun j _=>rfl⟩
  ·rw[show 0-a=0 by omega,Int.pow_zero,Int.mul_one];exact hl z h1 h2
  ·rw[show 0-a=0 by omega,Int.pow_zero,Int.mul_one,show N+(Q-Q)*E=N by rw[Int.sub_self];omega];exact hv j
 |y+1,hy=>by
  have ih:=sq hs hE hN hQ ho ha hc hv hl y om;by_cases cy:a<=y
  ·have VN:=hc y cy om
   have e:bK w F c (y+1) v=fun j=>bK w F c y v j-bK w F c y v (aj w (F y)) / F y (aj w (F y))*F y j:=by
    show(if c<aj w (F y)then _ else _)=_;rw[if_pos VN]
   rw[e];generalize bK w F c y v=u at *;have hL:=hs.pos y om;have hp:(2:Int) ^ (y+1-a)=2 ^ (y-a)*2:=by rw[show y+1-a=(y-a)+1 by omega,Int.pow_succ]
   obtain⟨R,eR⟩:∃R,R=Q*2 ^ (y-a):=⟨_,rfl⟩;have hR:0<=R:=by rw[eR];exact Int.mul_nonneg hQ (Int.le_of_lt (Int.pow_pos om))
   have hRQ:Q<=R:=by
    rw[eR];have h1:(1:Int)<=2 ^ (y-a):=Int.pow_pos om;have:=Int.mul_le_mul_of_nonneg_left h1 hQ;omega
   have ZQ:Q*2 ^ (y+1-a)=2*R:=by rw[hp,eR,<-Int.mul_assoc,Int.mul_comm]
   have hle:=ih.le;have NW:=ih.lead;rw[<-eR]at hle NW;have ht:=Hk hL (NW y (Nat.le_refl _) cy om) hR;generalize hT:u (aj w (F y)) / F y (aj w (F y))=t at ht;refine⟨fun z h1 h2=>?_,fun z h0 h1 h2=>?_,fun j=>?_,fun j hj=>?_⟩
   ·by_cases ez:z=y
    ·subst ez
     show 0<=u (aj w (F z))-t*F z (aj w (F z))/\u (aj w (F z))-t*F z (aj w (F z))<F z (aj w (F z));rw[<-hT];have q1:=Int.emod_nonneg (u (aj w (F z))) (show F z (aj w (F z))≠0 by omega);have q2:=Int.emod_lt_of_pos (u (aj w (F z))) hL;have q3:=Int.emod_add_mul_ediv (u (aj w (F z))) (F z (aj w (F z)));rw[Int.mul_comm]at q3;omega
    ·show 0<=u (aj w (F z))-t*F y (aj w (F z))/\u (aj w (F z))-t*F y (aj w (F z))<F z (aj w (F z))
     rw[bD (w:=w) (v:=F y) (hs.inc z y om om),Int.mul_zero,Int.sub_zero];exact ih.red z h1 om
   ·show(u (aj w (F z))-t*F y (aj w (F z))).natAbs<=_
    rw[ZQ];have q1:=NW z om h1 h2;have q2:=ho.red y z cy om h2;have q3:(t*F y (aj w (F z))).natAbs<=(R*F z (aj w (F z))).natAbs:=iF ht om hR om;have q4:0<=R*F z (aj w (F z)):=Int.mul_nonneg hR om;rw[Int.mul_assoc];omega
   ·show(u j-t*F y j).natAbs<=_
    rw[ZQ];have q1:=hle j;have q3:(t*F y j).natAbs<=(R*E).natAbs:=iF ht (ho.le y cy om j) hR hE;have q4:0<=R*E:=Int.mul_nonneg hR hE;have q5:0<=(R-Q)*E:=Int.mul_nonneg om hE;rw[show(2*R-Q)*E=(R-Q)*E+R*E by rw[<-Int.add_mul];congr 1;omega];omega
   ·show u j-t*F y j=v j
    rw[bD (w:=w) (v:=F y) (hj y cy om),Int.mul_zero,Int.sub_zero];exact ih.cJ j hj
  ·have e:bK w F c (y+1) v=bK w F c y v:=by
    show(if c<aj w (F y)then _ else _)=_;rw[if_neg (by have:=ha y om om;omega)]
   rw[e];have e0:y+1-a=y-a:=om
   exact⟨fun z h1 h2=>om,fun z h0 h1 h2=>by rw[e0];exact ih.lead z om h1 h2,fun j=>by rw[e0];exact ih.le j,ih.cJ⟩
theorem NX{w k a c:Nat}{F:Nat->aN}{v:aN}(hs:Br w k F)(ha:∀z,z<a->z<k->aj w (F z)<=c)(hr:∀z,a<=z->z<k->0<=v (aj w (F z))/\v (aj w (F z))<F z (aj w (F z))):∀y,y<=k->bK w F c y v=v
 |0,_=>rfl
 |y+1,hy=>by
  have ih:=NX hs ha hr y om;show(if c<aj w (F y)then(fun j=>bK w F c y v j-bK w F c y v (aj w (F y)) / F y (aj w (F y))*F y j)else bK w F c y v)=v;rw[ih];split
  ·rename_i q
   have cy:a<=y:=by rcases Nat.lt_or_ge y a with r|r;have:=ha y r om;omega;exact r
   obtain⟨h1,h2⟩:=hr y cy om;rw[Int.ediv_eq_zero_of_lt h1 h2]
   funext j;omega
  ·rfl
theorem Hl{w k:Nat}{F:Nat->aN}{c r:Nat}{v:aN}(hr:r<k):∀y,y<=k->(∀z,z<y->c<aj w (F z)->z≠r)->kH w k (put F r (bK w F c y v)) (put F r v)
 |0,_,_=>.refl _ _ _
 |y+1,hy,dS=>by
  have ih:=Hl (c:=c) (v:=v) hr y om (fun z hz=>dS z om);by_cases q:c<aj w (F y)
  ·have e:bK w F c (y+1) v=fun j=>bK w F c y v j-bK w F c y v (aj w (F y)) / F y (aj w (F y))*F y j:=by
    show(if c<aj w (F y)then _ else _)=_;rw[if_pos q]
   have ny:=dS y om q;have h:=kH.sub (w:=w) (F:=put F r (bK w F c y v)) (r:=r) (y:=y) hr om (fun e=>ny e.symm) (bK w F c y v (aj w (F y)) / F y (aj w (F y)));rw[jg,show put F r (bK w F c y v) r=bK w F c y v by unfold put;rw[if_pos rfl],show put F r (bK w F c y v) y=F y by unfold put;rw[if_neg ny]]at h;rw[e];exact h.trans ih
  ·have e:bK w F c (y+1) v=bK w F c y v:=by
    show(if c<aj w (F y)then _ else _)=_;rw[if_neg q]
   rw[e];exact ih
def lP(w:Nat)(F:Nat->aN)(c k:Nat)(v:aN):Prop:=∀y,y<k->c<aj w (F y)->∀j,(bK w F c y v j).natAbs<=9000000000000000000/\(bK w F c y v (aj w (F y)) / F y (aj w (F y))*F y j).natAbs<=9000000000000000000/\(bK w F c (y+1) v j).natAbs<=9000000000000000000
theorem qu{w k a c:Nat}{F:Nat->aN}{E N Q:Int}{v:aN}(hs:Br w k F)(hE:0<=E)(hN:0<=N)(hQ:0<=Q)(ho:Old w k a F E)(ha:∀z,z<a->z<k->aj w (F z)<=c)(hc:∀z,a<=z->z<k->c<aj w (F z))
  (hv:∀j,(v j).natAbs<=N.natAbs) (hl:∀z,a<=z->z<k->(v (aj w (F z))).natAbs<=(Q*F z (aj w (F z))).natAbs) (hka:k-a<=3) (hb:N+7*(Q*E)<=9000000000000000000):lP w F c k v/\∀j,(bK w F c k v j).natAbs<=(N+7*(Q*E)).natAbs:=by
 have all:=sq hs hE hN hQ ho ha hc hv hl;have hQE:0<=Q*E:=Int.mul_nonneg hQ hE;have pw:∀y,y<=k->Q<=Q*2 ^ (y-a)/\Q*2 ^ (y-a)<=8*Q:=fun y hy=>by
  have:y-a=0\/y-a=1\/y-a=2\/y-a=3:=om
  rcases this with q|q|q|q<;>rw[q]
  ·rw[Int.pow_zero];omega
  ·rw[show(2:Int) ^ 1=2 from rfl];omega
  ·rw[show(2:Int) ^ 2=4 from rfl];omega
  ·rw[show(2:Int) ^ 3=8 from rfl];omega
 have le:∀y,y<=k->∀j,(bK w F c y v j).natAbs<=(N+7*(Q*E)).natAbs:=fun y hy j=>by
  have h1:=(all y hy).le j;obtain⟨h2,h3⟩:=pw y hy;have h4:=Int.mul_le_mul_of_nonneg_right (show Q*2 ^ (y-a)-Q<=7*Q by omega) hE;have h5:=Int.mul_nonneg (show 0<=Q*2 ^ (y-a)-Q by omega) hE;rw[Int.mul_assoc]at h4;omega
 refine⟨fun y hy VN j=>?_,le k (Nat.le_refl _)⟩;have h1:=le y om j;have h2:=le (y+1) om j;refine⟨om,?_,om⟩;have cy:a<=y:=by rcases Nat.lt_or_ge y a with r|r;have:=ha y r hy;omega;exact r
 have L:=hs.pos y hy;have h6:=(all y om).lead y (Nat.le_refl _) cy hy;have h7:=Hk L h6 (by obtain⟨h2,h3⟩:=pw y om;omega);have h8:=(pw y om).1;have h9:Q*2 ^ (y-a)<=4*Q:=by
  have:y-a=0\/y-a=1\/y-a=2:=om
  rcases this with q|q|q<;>rw[q]
  ·rw[Int.pow_zero];omega
  ·rw[show(2:Int) ^ 1=2 from rfl];omega
  ·rw[show(2:Int) ^ 2=4 from rfl];omega
 have Cv:=iF (A:=4*Q) (B:=E) (show(bK w F c y v (aj w (F y)) / F y (aj w (F y))).natAbs<=_ by omega) (ho.le y cy hy j) om hE;rw[Int.mul_assoc]at Cv;omega
def cb(a:Nat):Int:=3673320192*7 ^ a
theorem wC(a:Nat):cb (a+1)=7*cb a:=by unfold cb;rw[Int.pow_succ];omega
theorem NY(a:Nat):0<cb a:=by unfold cb;have:(0:Int)<7 ^ a:=Int.pow_pos om;omega
theorem tK{a b:Nat}(h:a<=b):cb a<=cb b:=by
 obtain⟨d,rfl⟩:∃d,b=a+d:=⟨b-a,om⟩;clear h
 induction d with
 |zero=>exact Int.le_refl _
 |succ d ih=>have:=NY (a+d);rw[show a+(d+1)=a+d+1 by omega,wC];omega
theorem QO:cb 3=1259948825856:=by decide
theorem Bf{a:Nat}(h:a<=3):cb a<=1259948825856:=by rw[<-QO];exact tK h
def Pt(f:Nat->Int):Nat->Nat->Int
 |_,0=>1
 |a,n+1=>f a*Pt f (a+1) n
theorem ss{f:Nat->Int}:∀(n a:Nat),(∀i,a<=i->i<a+n->0<f i)->0<Pt f a n
 |0,_,_=>by show(0:Int)<1;omega
 |n+1,a,h=>Int.mul_pos (h a om om) (ss n (a+1) (fun i h1 h2=>h i om om))
theorem za{f g:Nat->Int}:∀(n a:Nat),(∀i,a<=i->i<a+n->f i=g i)->Pt f a n=Pt g a n
 |0,_,_=>rfl
 |n+1,a,h=>by show f a*Pt f (a+1) n=g a*Pt g (a+1) n;rw[h a om om,za n (a+1) (fun i h1 h2=>h i om om)]
theorem mN{x p:Int}(hx:0<=x)(hp:0<p):x<=x*p:=by
 have:=Int.mul_le_mul_of_nonneg_left (show(1:Int)<=p by omega) hx;omega
theorem CA{f:Nat->Int}{k:Nat}(h:∀i,i<k->0<f i):∀(d a:Nat),a+d<=k->Pt f (a+d) (k-(a+d))<=Pt f a (k-a)
 |0,a,_=>Int.le_refl _
 |d+1,a,hk=>by
  have ih:=CA h d (a+1) om;rw[show a+(d+1)=a+1+d by omega];refine Int.le_trans ih ?_;rw[show k-a=(k-(a+1))+1 by omega];show _<=f a*Pt f (a+1) (k-(a+1));have p:=ss (f:=f) (k-(a+1)) (a+1) (fun i h1 h2=>h i om);rw[Int.mul_comm];exact mN (Int.le_of_lt p) (h a om)
theorem NZ(f:Nat->Int):∀(n a:Nat),Pt f a (n+1)=Pt f a n*f (a+n)
 |0,a=>by show f a*1=1*f (a+0);rw[Nat.add_zero];omega
 |n+1,a=>by
  show f a*Pt f (a+1) (n+1)=f a*Pt f (a+1) n*f (a+(n+1));rw[NZ f n (a+1),show a+1+n=a+(n+1) by omega,Int.mul_assoc]
theorem Fe(f:Nat->Int):∀n,Pt f 0 n=fX f n
 |0=>rfl
 |n+1=>by rw[NZ,Fe f n,Nat.zero_add];rfl
def zb(w:Nat)(F:Nat->aN):Nat->Int:=fun z=>F z (aj w (F z))
theorem Br.parts{w k:Nat}{F:Nat->aN}(h:Br w k F)(c:Nat):∃a,a<=k/\(∀y,y<a->aj w (F y)<c)/\∀z,a<=z->z<k->c<=aj w (F z):=by
 obtain⟨h1,h2,h3⟩:=h
 induction k with
 |zero=>exact⟨0,Nat.le_refl _,fun y hy=>om,fun z _ hz=>om⟩
 |succ k ih=>
  obtain⟨a,q1,q2,q3⟩:=ih (fun i hi=>h1 i om) (fun i hi=>h2 i om) (fun i j hi hj=>h3 i j hi om);by_cases e:aj w (F k)<c
  ·refine⟨k+1,Nat.le_refl _,fun y hy=>?_,fun z hz hk=>om⟩
   by_cases ey:y=k
   ·rw[ey];exact e
   ·have:=h3 y k om om;omega
  ·refine⟨a,om,q2,fun z hz hk=>?_⟩
   by_cases ez:z=k
   ·rw[ez];omega
   ·exact q3 z hz om
structure jd(w k:Nat)(F:Nat->aN)(v:aN)(F0:Nat->aN):Prop where
 gD:Br w k F
 CC:kH w (k+1) (put F k v) F0
 KC:∀y,y<k->∀j,(F y j).natAbs<=(cb 3).natAbs
 k3:k<=3
 nz:∃d J I,(∀i,i<d->J i<w)/\prod d (rv (k+1) F0 J) (k+1) I≠0
theorem jd.lead{w k:Nat}{F:Nat->aN}{v:aN}{F0:Nat->aN}(b:jd w k F v F0):aj w v<w:=by
 obtain⟨d,J,I,h1,h2⟩:=b.nz;have:=b.CC.ne h1 h2 (r:=k) om;rw[show put F k v k=v by unfold put;rw[if_pos rfl]]at this;exact this
structure KD(w k a:Nat)(F:Nat->aN)(v:aN)(N Q:Int):Prop where
 ak:a<=k
 lo:∀y,y<a->aj w (F y)<aj w v
 hi:∀z,a<=z->z<k->aj w v<=aj w (F z)
 cJ:Old w k a F 13122
 n0:0<=N
 q1:1<=Q
 le:∀j,(v j).natAbs<=N.natAbs
 ld:∀z,a<=z->z<k->(v (aj w (F z))).natAbs<=(Q*F z (aj w (F z))).natAbs
 N3:(N+7*(Q*13122))*Pt (zb w F) a (k-a)<=cb a
structure N4(w k a:Nat)(F:Nat->aN)(v:aN)(n m:Int):Prop where
 ak:a<k
 lo:∀y,y<a->aj w (F y)<aj w v
 eq:aj w (F a)=aj w v
 cJ:Old w k (a+1) F 13122
 xy:F a (aj w v)<v (aj w v)
 rv:∀z,a<z->z<k->0<=v (aj w (F z))/\v (aj w (F z))<F z (aj w (F z))
 rf:∀z,a<z->z<k->0<=F a (aj w (F z))/\F a (aj w (F z))<F z (aj w (F z))
 vn:∀j,((v j).natAbs:Int)+91854<=n
 fm:∀j,((F a j).natAbs:Int)+91854<=m
 N3:(n*F a (aj w v)+m*v (aj w v))*Pt (zb w F) (a+1) (k-(a+1))<=7*cb a
theorem gn{F:Nat->aN}{k:Nat}(v:aN):put F k v k=v:=by unfold put;rw[if_pos rfl]
theorem fO{F:Nat->aN}{k i:Nat}(v:aN)(h:i≠k):put F k v i=F i:=by unfold put;rw[if_neg h]
theorem jd.low{w k:Nat}{F:Nat->aN}{v:aN}{F0:Nat->aN}(b:jd w k F v F0)(c:Nat):jd w k F (bK w F c k v) F0:=
 ⟨b.gD,by
  have h:=Hl (w:=w) (k:=k+1) (F:=F) (c:=c) (v:=v) (r:=k) om k om (fun z hz _=>om);exact h.trans b.CC,b.KC,b.k3,b.nz⟩
theorem jd.take{w k a:Nat}{F:Nat->aN}{v:aN}{F0:Nat->aN}(b:jd w k F v F0)(ha:a<k)(q:Int):jd w k F (fun j=>v j-q*F a j) F0:=
 ⟨b.gD,by
  have h:=kH.sub (w:=w) (k:=k+1) (F:=put F k v) (r:=k) (y:=a) om om om q;rw[jg,gn,fO v om]at h;exact h.trans b.CC,b.KC,b.k3,b.nz⟩
theorem I4{w k a:Nat}{F:Nat->aN}{v:aN}{F0:Nat->aN}{N Q:Int}(b:jd w k F v F0)(ha:a<k)(ho:Old w k (a+1) F 13122)(hz:∀j,j<=aj w (F a)->v j=0)(hN:0<=N)(hQ:1<=Q)(le:∀j,(v j).natAbs<=N.natAbs)
  (ld:∀z,a<z->z<k->(v (aj w (F z))).natAbs<=(Q*F z (aj w (F z))).natAbs) (N3:(N+7*(Q*13122))*Pt (zb w F) (a+1) (k-(a+1))<=7*cb a):aj w (F a)<aj w v/\∃a',KD w k a' F v N Q:=by
 have hc:aj w (F a)<aj w v:=by
  rcases Nat.lt_or_ge (aj w (F a)) (aj w v)with q|q
  ·exact q
  ·exact absurd (hz _ q) (lg b.lead)
 refine⟨hc,?_⟩;obtain⟨a',p1,p2,p3⟩:=b.gD.parts (aj w v);have haa:a+1<=a':=by
  rcases Nat.lt_or_ge a a' with q|q
  ·exact q
  ·have:=p3 a q ha;omega
 have hL:∀i,i<k->0<zb w F i:=fun i hi=>b.gD.pos i hi
 obtain⟨d,rfl⟩:∃d,a'=a+1+d:=⟨a'-(a+1),om⟩;have h1:=CA hL d (a+1) p1;have h2:0<=N+7*(Q*13122):=om
 have h3:=Int.mul_le_mul_of_nonneg_left h1 h2;have h4:=tK (a:=a+1) (b:=a+1+d) om;rw[wC]at h4;exact⟨a+1+d,p1,p2,p3,ho.NV om,hN,hQ,le,fun z h1 h2=>ld z om h2,om⟩
theorem N5{w k a:Nat}{F:Nat->aN}{u:aN}{F0:Nat->aN}{n m:Int}(b:jd w k F u F0)(ha:a<k)(ho:Old w k (a+1) F 13122)(hz:∀j,j<aj w (F a)->u j=0)(hx:0<u (aj w (F a))/\u (aj w (F a))<F a (aj w (F a)))
  (ru:∀z,a<z->z<k->0<=u (aj w (F z))/\u (aj w (F z))<F z (aj w (F z))) (rf:∀z,a<z->z<k->0<=F a (aj w (F z))/\F a (aj w (F z))<F z (aj w (F z)))
  (un:∀j,((u j).natAbs:Int)+91854<=m) (fn:∀j,((F a j).natAbs:Int)+91854<=n) (hm:m<=cb 3)
  (N3:(n*u (aj w (F a))+m*F a (aj w (F a)))*Pt (zb w F) (a+1) (k-(a+1))<=7*cb a):aj w u=aj w (F a)/\jd w k (put F a u) (F a) F0/\N4 w k a (put F a u) (F a) n m:=by
 have hlw:=b.gD.lt a ha;have hl:aj w u=aj w (F a):=iC om hz (fun _=>om);have Lq:=gn (F:=F) (k:=a) u;have F2:∀i,i≠a->put F a u i=F i:=fun i hi=>fO u hi
 have hle:∀i,aj w (put F a u i)=aj w (F i):=fun i=>by
  by_cases e:i=a
  ·rw[e,Lq,hl]
  ·rw[F2 i e]
 have uj:Br w k (put F a u):=by
  refine⟨fun i hi=>by rw[hle];exact b.gD.lt i hi,fun i hi=>?_,fun i j h1 h2=>by rw[hle,hle];exact b.gD.inc i j h1 h2⟩;rw[hle];by_cases e:i=a
  ·rw[e,Lq];exact hx.1
  ·rw[F2 i e];exact b.gD.pos i hi
 have hpt:Pt (zb w (put F a u)) (a+1) (k-(a+1))=Pt (zb w F) (a+1) (k-(a+1)):=za _ _ (fun i h1 h2=>by unfold zb;rw[F2 i om]);refine⟨hl,⟨uj,?_,fun y hy j=>?_,b.k3,b.nz⟩,⟨ha,fun y hy=>?_,by rw[Lq];exact hl,⟨fun z h1 h2 j=>?_,fun y z h1 h2 h3=>?_⟩,?_,fun z h1 h2=>?_,fun z h1 h2=>?_,fn,fun j=>by rw[Lq];exact un j,?_⟩⟩
 ·have h:=kH.swap (w:=w) (k:=k+1) (F:=put F k u) (a:=a) (b:=k) om om
  have e:Pn (put F k u) a k=put (put F a u) k (F a):=by
   unfold Pn;rw[gn,fO u om,nH (show k≠a by omega),jg]
  rw[e]at h;exact h.trans b.CC
 ·by_cases e:y=a
  ·rw[e,Lq];have:=un j;have:=NY 3;omega
  ·rw[F2 y e];exact b.KC y hy j
 ·rw[F2 y om];exact b.gD.inc y a hy ha
 ·rw[F2 z om];exact ho.le z h1 h2 j
 ·rw[F2 y om,F2 z om];exact ho.red y z h1 h2 h3
 ·rw[Lq];exact hx.2
 ·rw[F2 z om];exact rf z h1 h2
 ·rw[Lq,F2 z om];exact ru z h1 h2
 ·rw[Lq,hpt];exact N3
def Next(w k:Nat)(F0 F:Nat->aN)(a:Nat)(u2:aN):Prop:=
 (u2 (aj w (F a))=0/\aj w (F a)<aj w u2/\jd w k F u2 F0/\∃a' N Q,KD w k a' F u2 N Q) \/
 (u2 (aj w (F a))≠0/\aj w u2=aj w (F a)/\lP w F (aj w (F a)) k u2/\aj w (bK w F (aj w (F a)) k u2)=aj w (F a)/\bK w F (aj w (F a)) k u2 (aj w (F a))<F a (aj w (F a))/\jd w k (put F a (bK w F (aj w (F a)) k u2)) (F a) F0/\∃n m,N4 w k a (put F a (bK w F (aj w (F a)) k u2)) (F a) n m)
theorem vF{x y:Int}(hy:0<y):0<=x-x / y*y/\x-x / y*y<y:=by
 have q1:=Int.emod_nonneg x (show y≠0 by omega);have q2:=Int.emod_lt_of_pos x hy;have q3:=Int.emod_add_mul_ediv x y;rw[Int.mul_comm]at q3;omega
theorem KD.top{w k a:Nat}{F:Nat->aN}{v:aN}{F0:Nat->aN}{N Q:Int}(b:jd w k F v F0)(h:KD w k a F v N Q):N+7*(Q*13122)<=cb a:=by
 have p:=ss (f:=zb w F) (k-a) a (fun i h1 h2=>b.gD.pos i om);have:=h.N3;have h2:=h.n0;have h3:=h.q1;have:=mN (show 0<=N+7*(Q*13122) by omega) p;omega
theorem KD.low{w k a:Nat}{F:Nat->aN}{v:aN}{F0:Nat->aN}{N Q:Int}(b:jd w k F v F0)(h:KD w k a F v N Q) :
  lP w F (aj w v) k v/\(∀j,(bK w F (aj w v) k v j).natAbs<=(N+7*(Q*13122)).natAbs)/\(∀j,j<=aj w v->bK w F (aj w v) k v j=v j)/\∀z,a<=z->z<k->aj w v<aj w (F z)->0<=bK w F (aj w v) k v (aj w (F z))/\bK w F (aj w v) k v (aj w (F z))<F z (aj w (F z)):=by
 have XU:=h.top b;have hn:=h.n0;have hq:=h.q1;have hk:=b.k3;have key:∀a1,a<=a1->a1<=a+1->a1<=k->(∀z,z<a1->z<k->aj w (F z)<=aj w v)->(∀z,a1<=z->z<k->aj w v<aj w (F z))->lP w F (aj w v) k v/\(∀j,(bK w F (aj w v) k v j).natAbs<=(N+7*(Q*13122)).natAbs)/\(∀j,j<=aj w v->bK w F (aj w v) k v j=v j)/\∀z,a1<=z->z<k->0<=bK w F (aj w v) k v (aj w (F z))/\bK w F (aj w v) k v (aj w (F z))<F z (aj w (F z)):=by
  intro a1 h1 h2 h3 lo hi;have ho:=h.cJ.NV h1;have Zr:∀z,a1<=z->z<k->(v (aj w (F z))).natAbs<=(Q*F z (aj w (F z))).natAbs:=fun z q1 q2=>h.ld z om q2
  obtain⟨s1,s2⟩:=qu b.gD (E:=13122) om hn om ho lo hi h.le Zr om (by have:=Bf (a:=a) (by have:=h.ak;omega);omega);have s3:=sq b.gD (E:=13122) om hn om ho lo hi h.le Zr k (Nat.le_refl _);exact⟨s1,s2,fun j hj=>s3.cJ j (fun z q1 q2=>by have:=hi z q1 q2;omega),s3.red⟩
 by_cases c:a<k/\aj w (F a)=aj w v
 ·obtain⟨r1,r2,r3,r4⟩:=key (a+1) om om om (fun z q1 q2=>by
   by_cases e:z=a
   ·rw[e];omega
   ·have:=h.lo z om;omega) (fun z q1 q2=>by have:=b.gD.inc a z om q2;omega)
  exact⟨r1,r2,r3,fun z q1 q2 q3=>r4 z (by
   rcases Nat.lt_or_ge a z with q|q
   ·omega
   ·have:z=a:=om
    subst this;omega) q2⟩
 ·obtain⟨r1,r2,r3,r4⟩:=key a om om h.ak (fun z q1 q2=>by have:=h.lo z q1;omega) (fun z q1 q2=>by
   have h1:=h.hi z q1 q2;by_cases e:aj w (F z)=aj w v
   ·exfalso
    by_cases ez:z=a
    ·subst ez;exact c ⟨q2,e⟩
    ·have:=b.gD.inc a z om q2;have:=h.hi a om om;omega
   ·omega)
  exact⟨r1,r2,r3,fun z q1 q2 _=>r4 z q1 q2⟩
theorem QP{w k a:Nat}{F:Nat->aN}{v:aN}{F0:Nat->aN}{N Q:Int}(b:jd w k F v F0)(h:KD w k a F v N Q)(ha:a<k)(he:aj w (F a)=aj w v){u:aN}(eu:u=bK w F (aj w v) k v){q:Int}(eq:q=u (aj w v) / F a (aj w v)) :
  (∀j,(q*F a j).natAbs<=9000000000000000000/\(u j-q*F a j).natAbs<=9000000000000000000)/\Next w k F0 F a (fun j=>u j-q*F a j):=by
 obtain⟨l1,l2,l3,l4⟩:=h.low b;have bu:=b.low (aj w v);have XU:=h.top b;have hn:=h.n0;have hq:=h.q1;have hk:=b.k3;have hcb:=Bf (a:=a) om;rw[<-eu]at l2 l3 l4 bu;rw[<-he]at l3 l4 eq;have hL:=b.gD.pos a ha;have luc:u (aj w (F a))=v (aj w (F a)):=l3 _ (Nat.le_refl _);have hqQ:q.natAbs<=Q.natAbs:=by
  rw[eq,luc];exact Hk hL (h.ld a om ha) om
 obtain⟨QE,VS⟩:∃z,z=Q*13122:=⟨_,rfl⟩;rw[<-VS]at XU l2;have hQE:13122<=QE:=om
 have VT:∀j,(q*F a j).natAbs<=QE.natAbs:=fun j=>by rw[VS];exact iF hqQ (h.cJ.le a (Nat.le_refl _) ha j) om om
 refine⟨fun j=>⟨by have:=VT j;omega,by have:=VT j;have:=l2 j;omega⟩,?_⟩;have b2:=bu.take ha q;have Mz:∀j,(u j-q*F a j).natAbs<=(N+8*QE).natAbs:=fun j=>by have:=VT j;have:=l2 j;omega
 have zG:∀j,j<aj w (F a)->u j-q*F a j=0:=fun j hj=>by
  rw[l3 j om,bD (w:=w) (v:=v) om,bD hj];omega
 have Aq:∀z,a<z->z<k->((u (aj w (F z))-q*F a (aj w (F z))).natAbs<=((Q+1)*F z (aj w (F z))).natAbs):=fun z z1 z2=>by
  obtain⟨r1,r2⟩:=l4 z om z2 (b.gD.inc a z z1 z2);obtain⟨r3,r4⟩:=h.cJ.red a z (Nat.le_refl _) z1 z2;have r5:=iF hqQ (show(F a (aj w (F z))).natAbs<=(F z (aj w (F z))).natAbs by omega) om om;have r6:0<=Q*F z (aj w (F z)):=Int.mul_nonneg om om;rw[Int.add_mul,Int.one_mul];omega
 have ho:=h.cJ.NV (a':=a+1) om;obtain⟨x1,x2⟩:=vF (x:=u (aj w (F a))) hL;rw[<-eq]at x1 x2;have Ar:=h.N3;rw[<-VS,show k-a=(k-(a+1))+1 by omega]at Ar;have Ar:(N+7*QE)*(F a (aj w (F a))*Pt (zb w F) (a+1) (k-(a+1)))<=cb a:=Ar;have hP:=ss (f:=zb w F) (k-(a+1)) (a+1) (fun i h1 h2=>b.gD.pos i om);generalize XV:Pt (zb w F) (a+1) (k-(a+1))=P at Ar hP;have hT:0<=N+7*QE:=om
 have bud1:(N+7*QE)*P<=cb a:=by
  refine Int.le_trans ?_ Ar;refine Int.mul_le_mul_of_nonneg_left ?_ hT;rw[Int.mul_comm];exact mN (Int.le_of_lt hP) hL
 by_cases c0:u (aj w (F a))-q*F a (aj w (F a))=0
 ·left
  have fin:=I4 b2 ha ho (N:=N+8*QE) (Q:=Q+1) (fun j hj=>by
   by_cases e:j=aj w (F a)
   ·rw[e];exact c0
   ·exact zG j om) om om Mz Aq (by
   rw[XV,show N+8*QE+7*((Q+1)*13122)=N+15*QE+91854 by rw[VS];omega];have:=Int.mul_le_mul_of_nonneg_right (show N+15*QE+91854<=7*(N+7*QE) by omega) (Int.le_of_lt hP);rw[Int.mul_assoc]at this;omega)
  obtain⟨f1,a',f2⟩:=fin;exact⟨c0,f1,b2,a',_,_,f2⟩
 ·right
  have hx:0<u (aj w (F a))-q*F a (aj w (F a)):=om
  have DT:aj w (fun j=>u j-q*F a j)=aj w (F a):=iC (Nat.le_of_lt (b.gD.lt a ha)) zG (fun _=>by show u (aj w (F a))-q*F a (aj w (F a))≠0;omega);have lo:∀z,z<a+1->z<k->aj w (F z)<=aj w (F a):=fun z z1 z2=>by
   by_cases e:z=a
   ·rw[e];omega
   ·have:=b.gD.inc z a om ha;omega
  have hi:∀z,a+1<=z->z<k->aj w (F a)<aj w (F z):=fun z z1 z2=>b.gD.inc a z om z2
  have s1:=qu b.gD (E:=13122) (N:=N+8*QE) (Q:=Q+1) (v:=fun j=>u j-q*F a j) om om om ho lo hi Mz (fun z z1 z2=>Aq z om z2) om (by rw[show(Q+1)*13122=QE+13122 by rw[VS];omega];omega);have s2:=sq b.gD (E:=13122) (N:=N+8*QE) (Q:=Q+1) (v:=fun j=>u j-q*F a j) om om om ho lo hi Mz (fun z z1 z2=>Aq z om z2) k (Nat.le_refl _);obtain⟨s1,s3⟩:=s1;have b3:=b2.low (aj w (F a));have e3:∀j,j<=aj w (F a)->bK w F (aj w (F a)) k (fun j=>u j-q*F a j) j=u j-q*F a j:=fun j hj=>s2.cJ j (fun z z1 z2=>by have:=hi z z1 z2;omega)
  have r3:=s2.red;generalize bK w F (aj w (F a)) k (fun j=>u j-q*F a j)=u3 at *;have ec:u3 (aj w (F a))=u (aj w (F a))-q*F a (aj w (F a)):=e3 _ (Nat.le_refl _);have hm:N+29*QE<=cb 3:=by
   have h4:=tK (a:=a+1) (b:=3) om;rw[wC]at h4;omega
  obtain⟨m1,m2,m3⟩:=N5 b3 ha ho (n:=104976) (m:=N+29*QE) (fun j hj=>by rw[e3 j om];exact zG j hj) (by rw[ec];exact⟨hx,x2⟩) (fun z z1 z2=>r3 z om z2) (fun z z1 z2=>h.cJ.red a z (Nat.le_refl _) z1 z2)
   (fun j=>by have:=s3 j;rw[show(Q+1)*13122=QE+13122 by rw[VS];omega]at this;omega) (fun j=>by have:=h.cJ.le a (Nat.le_refl _) ha j;omega) hm (by
   rw[XV,ec];generalize u (aj w (F a))-q*F a (aj w (F a))=x at *;generalize hy:F a (aj w (F a))=y at *;have q1:104976*x+(N+29*QE)*y<=7*(N+7*QE)*y:=by
    have h1:=Int.mul_le_mul_of_nonneg_right (show 104976+(N+29*QE)<=7*(N+7*QE) by omega) (Int.le_of_lt hL);rw[Int.add_mul]at h1;omega
   have q2:=Int.mul_le_mul_of_nonneg_right q1 (Int.le_of_lt hP);refine Int.le_trans q2 ?_;rw[Int.mul_assoc,Int.mul_assoc];omega)
  exact⟨c0,DT,s1,m1,by rw[ec];exact x2,m2,_,_,m3⟩
theorem N4.y0{w k a:Nat}{F:Nat->aN}{v:aN}{F0:Nat->aN}{n m:Int}(b:jd w k F v F0)(h:N4 w k a F v n m):0<F a (aj w v):=by have:=b.gD.pos a h.ak;rw[h.eq]at this;exact this
theorem N4.low{w k a:Nat}{F:Nat->aN}{v:aN}{F0:Nat->aN}{n m:Int}(b:jd w k F v F0)(h:N4 w k a F v n m):(∀y,y<=k->bK w F (aj w v) y v=v)/\lP w F (aj w v) k v:=by
 have lo:∀z,z<a+1->z<k->aj w (F z)<=aj w v:=fun z z1 z2=>by
  by_cases e:z=a
  ·rw[e,h.eq];omega
  ·have:=h.lo z om;omega
 have id:=NX (c:=aj w v) b.gD lo (fun z z1 z2=>h.rv z om z2);refine⟨id,fun y hy hc j=>?_⟩;rw[id y om,id (y+1) om];have cy:a<y:=by
  rcases Nat.lt_or_ge a y with q|q
  ·exact q
  ·have:=lo y om hy;omega
 obtain⟨r1,r2⟩:=h.rv y cy hy;have hv:=h.vn j;have hP:=ss (f:=zb w F) (k-(a+1)) (a+1) (fun i h1 h2=>b.gD.pos i om);have Px:=h.y0 b;have hx:=h.xy;have hn:0<=n:=by have:=h.vn 0;omega
 have hm:0<=m:=by have:=h.fm 0;omega
 have b1:=h.N3;have b2:0<=n*F a (aj w v):=Int.mul_nonneg hn om;have b3:0<=m*v (aj w v):=Int.mul_nonneg hm om;have b4:=mN (show 0<=n*F a (aj w v)+m*v (aj w v) by omega) hP;have b5:=mN hn Px;have hak:=h.ak;have hk:=b.k3;have b6:=Bf (a:=a) om;rw[Int.ediv_eq_zero_of_lt r1 r2,Int.zero_mul];omega
theorem QQ{w k a:Nat}{F:Nat->aN}{v:aN}{F0:Nat->aN}{n m:Int}(b:jd w k F v F0)(h:N4 w k a F v n m){q:Int}(eq:q=v (aj w v) / F a (aj w v)) :
  (∀j,(q*F a j).natAbs<=9000000000000000000/\(v j-q*F a j).natAbs<=9000000000000000000)/\Next w k F0 F a (fun j=>v j-q*F a j):=by
 have ha:=h.ak;have hk:=b.k3;have he:=h.eq;have hxy:=h.xy;have Ar:=h.N3;rw[<-he]at eq hxy Ar;have hL:=b.gD.pos a ha;have hn:91854<=n:=by have:=h.vn 0;omega
 have hm:91854<=m:=by have:=h.fm 0;omega
 have hP:=ss (f:=zb w F) (k-(a+1)) (a+1) (fun i h1 h2=>b.gD.pos i om);generalize XV:Pt (zb w F) (a+1) (k-(a+1))=P at Ar hP;obtain⟨x1,x2⟩:=vF (x:=v (aj w (F a))) hL;rw[<-eq]at x1 x2;have NH:1<=q:=by
  rcases Int.lt_or_le q 1 with c|c
  ·have:=Int.mul_le_mul_of_nonneg_right (show q<=0 by omega) (Int.le_of_lt hL);omega
  ·exact c
 have hqm:q*m<=m*v (aj w (F a)):=by
  rw[Int.mul_comm];refine Int.mul_le_mul_of_nonneg_left ?_ om;have:=mN (show 0<=q by omega) hL;omega
 have ZM:n+q*m<=n*F a (aj w (F a))+m*v (aj w (F a)):=by have:=mN (show 0<=n by omega) hL;omega
 have hqm0:91854<=q*m:=by
  have:=Int.mul_le_mul_of_nonneg_right NH (show 0<=m by omega);omega
 have JO:(n+q*m)*P<=7*cb a:=Int.le_trans (Int.mul_le_mul_of_nonneg_right ZM (Int.le_of_lt hP)) Ar;have aaq:n+q*m<=7*cb a:=Int.le_trans (mN om hP) JO;have h3:7*cb a<=cb 3:=by rw[<-wC];exact tK om
 have h3n:=QO;have VT:∀j,(q*F a j).natAbs+91854*q<=q*m:=fun j=>by
  rw[Int.natAbs_mul];have:=h.fm j;have h1:=Int.mul_le_mul_of_nonneg_left this (show 0<=q by omega);rw[Int.mul_add]at h1;have:((q.natAbs*(F a j).natAbs:Nat):Int)=q*((F a j).natAbs:Int):=by
   rw[Int.natCast_mul];congr 1;omega
  omega
 have Mz:∀j,(v j-q*F a j).natAbs+91854+91854*q<=n+q*m:=fun j=>by have:=VT j;have:=h.vn j;omega
 refine⟨fun j=>⟨by have:=VT j;omega,by have:=Mz j;omega⟩,?_⟩;have b2:=b.take ha q;have zG:∀j,j<aj w (F a)->v j-q*F a j=0:=fun j hj=>by
  rw[bD (w:=w) (v:=v) om,bD hj];omega
 have Aq:∀z,a<z->z<k->((v (aj w (F z))-q*F a (aj w (F z))).natAbs<=(q*F z (aj w (F z))).natAbs):=fun z z1 z2=>by
  obtain⟨r1,r2⟩:=h.rv z z1 z2;obtain⟨r3,r4⟩:=h.rf z z1 z2;have r5:=Int.mul_le_mul_of_nonneg_left (Int.le_of_lt r4) (show 0<=q by omega);have r6:=Int.mul_nonneg (show 0<=q by omega) r3;have r7:=Int.mul_le_mul_of_nonneg_right NH (show 0<=F z (aj w (F z)) by omega);omega
 have hN:(n+q*m-91854-91854*q)+7*(q*13122)<=n+q*m:=om
 have Vs:0<=n+q*m-91854-91854*q:=by have:=Mz 0;omega
 by_cases c0:v (aj w (F a))-q*F a (aj w (F a))=0
 ·left
  obtain⟨f1,a',f2⟩:=I4 b2 ha h.cJ (N:=n+q*m-91854-91854*q) (Q:=q) (fun j hj=>by
   by_cases e:j=aj w (F a)
   ·rw[e];exact c0
   ·exact zG j om) Vs NH (fun j=>by have:=Mz j;omega) Aq (by
   rw[XV];exact Int.le_trans (Int.mul_le_mul_of_nonneg_right hN (Int.le_of_lt hP)) JO)
  exact⟨c0,f1,b2,a',_,_,f2⟩
 ·right
  have hx:0<v (aj w (F a))-q*F a (aj w (F a)):=om
  have DT:aj w (fun j=>v j-q*F a j)=aj w (F a):=iC (Nat.le_of_lt (b.gD.lt a ha)) zG (fun _=>by show v (aj w (F a))-q*F a (aj w (F a))≠0;omega);have lo:∀z,z<a+1->z<k->aj w (F z)<=aj w (F a):=fun z z1 z2=>by
   by_cases e:z=a
   ·rw[e];omega
   ·have:=b.gD.inc z a om ha;omega
  have hi:∀z,a+1<=z->z<k->aj w (F a)<aj w (F z):=fun z z1 z2=>b.gD.inc a z om z2
  obtain⟨s1,s3⟩:=qu b.gD (E:=13122) (N:=n+q*m-91854-91854*q) (Q:=q) (v:=fun j=>v j-q*F a j) om Vs om h.cJ lo hi (fun j=>by have:=Mz j;omega) (fun z z1 z2=>Aq z om z2) om om;have s2:=sq b.gD (E:=13122) (N:=n+q*m-91854-91854*q) (Q:=q) (v:=fun j=>v j-q*F a j) om Vs om h.cJ lo hi (fun j=>by have:=Mz j;omega) (fun z z1 z2=>Aq z om z2) k (Nat.le_refl _);have b3:=b2.low (aj w (F a));have e3:∀j,j<=aj w (F a)->bK w F (aj w (F a)) k (fun j=>v j-q*F a j) j=v j-q*F a j:=fun j hj=>s2.cJ j (fun z z1 z2=>by have:=hi z z1 z2;omega)
  have r3:=s2.red;generalize bK w F (aj w (F a)) k (fun j=>v j-q*F a j)=u3 at *;have ec:u3 (aj w (F a))=v (aj w (F a))-q*F a (aj w (F a)):=e3 _ (Nat.le_refl _);obtain⟨m1,m2,m3⟩:=N5 b3 ha h.cJ (n:=m) (m:=n+q*m) (fun j hj=>by rw[e3 j om];exact zG j hj) (by rw[ec];exact⟨hx,x2⟩) (fun z z1 z2=>r3 z om z2) h.rf
   (fun j=>by have:=s3 j;omega) h.fm om (by
   rw[XV,ec];have e:m*(v (aj w (F a))-q*F a (aj w (F a)))+(n+q*m)*F a (aj w (F a))=n*F a (aj w (F a))+m*v (aj w (F a)):=by
    rw[Int.mul_sub,Int.add_mul,<-Int.mul_assoc,Int.mul_comm m q];omega
   rw[e];exact Ar)
  exact⟨c0,DT,s1,m1,by rw[ec];exact x2,m2,_,_,m3⟩
def jP(F:Nat->aN)(a:Nat)(v:aN):Nat->aN:=fun y=>if y<a then F y else if y=a then v else F (y-1)
theorem zd{F:Nat->aN}{a y:Nat}(v:aN)(h:y<a):jP F a v y=F y:=by unfold jP;rw[if_pos h]
theorem CD{F:Nat->aN}{a:Nat}(v:aN):jP F a v a=v:=by unfold jP;rw[if_neg om,if_pos rfl]
theorem CE{F:Nat->aN}{a y:Nat}(v:aN)(h:a<y):jP F a v y=F (y-1):=by unfold jP;rw[if_neg om,if_neg om]
theorem I5{w:Nat}{F:Nat->aN}{v:aN}:∀(d a k:Nat),a+d=k->kH w (k+1) (jP F a v) (put F k v)
 |0,a,k,h=>by
  obtain rfl:a=k:=om
  refine .of_eq (fun i hi=>?_);unfold put;by_cases c:i=a
  ·rw[if_pos c,c,CD]
  ·rw[if_neg c,zd v om]
 |d+1,a,k,h=>by
  have ih:=I5 (w:=w) (F:=F) (v:=v) d (a+1) k om;have hs:=kH.swap (w:=w) (k:=k+1) (F:=jP F (a+1) v) (a:=a) (b:=a+1) om om;refine kH.trans (.of_eq (fun i hi=>?_)) (hs.trans ih);show jP F a v i=if i=a+1 then jP F (a+1) v a else if i=a then jP F (a+1) v (a+1)else jP F (a+1) v i
  by_cases c1:i=a+1
  ·rw[if_pos c1,c1,CE v om,zd v om];rfl
  ·rw[if_neg c1]
   by_cases c2:i=a
   ·rw[if_pos c2,c2,CD,CD]
   ·rw[if_neg c2]
    by_cases c3:i<a
    ·rw[zd v c3,zd v om]
    ·rw[CE v om,CE v om]
structure su(w K i:Nat)(F F0:Nat->aN):Prop where
 gD:Br w K F
 CC:kH w K F F0
 KC:∀y,y<K->∀j,(F y j).natAbs<=1259949000000
 red:∀y z,i<=y->y<z->z<K->0<=F y (aj w (F z))/\F y (aj w (F z))<F z (aj w (F z))
 k4:K<=4
 hM:∀i,i<K->∀j,(F0 i j).natAbs<=9
theorem QR{K:Nat}(h:K<=4):K*(sN K K*9 ^ K)<=629856:=by
 have:K=0\/K=1\/K=2\/K=3\/K=4:=om
 rcases this with rfl|rfl|rfl|rfl|rfl<;>decide
theorem Br.small{w K z:Nat}{F F0:Nat->aN}(s:Br w K F)(l:kH w K F F0)(hM:∀i,i<K->∀j,(F0 i j).natAbs<=9)(k4:K<=4)(hz:z<K)(hr:∀m,z<m->m<K->0<=F z (aj w (F m))/\F z (aj w (F m))<F m (aj w (F m)))(j:Nat):(F z j).natAbs<=629856:=
 Nat.le_trans (kH.bound s l hM hz (fun m hm=>by
  rcases Nat.lt_trichotomy m z with q|q|q
  ·rw[bD (w:=w) (v:=F z) (s.inc m z q hz)];exact Nat.zero_le _
  ·rw[q];exact Nat.le_refl _
  ·have:=hr m q hm;omega) j) (QR k4)
theorem su.cJ{w K i:Nat}{F F0:Nat->aN}(f:su w K (i+1) F F0):Old w K (i+1) F 629856:=
 ⟨fun z h1 h2 j=>f.gD.small f.CC f.hM f.k4 h2 (fun m q1 q2=>f.red z m h1 q1 q2) j,fun y z h1 h2 h3=>f.red y z h1 h2 h3⟩
theorem su.step{w K i:Nat}{F F0:Nat->aN}(f:su w K (i+1) F F0)(hi:i<K):lP w F (aj w (F i)) K (F i)/\su w K i (put F i (bK w F (aj w (F i)) K (F i))) F0:=by
 have ho:=f.cJ;have lo:∀z,z<i+1->z<K->aj w (F z)<=aj w (F i):=fun z z1 z2=>by
  by_cases e:z=i
  ·rw[e];omega
  ·have:=f.gD.inc z i om hi;omega
 have hic:∀z,i+1<=z->z<K->aj w (F i)<aj w (F z):=fun z z1 z2=>f.gD.inc i z om z2
 have hv:∀j,(F i j).natAbs<=(1259949000000:Int).natAbs:=fun j=>f.KC i hi j
 have hl:∀z,i+1<=z->z<K->(F i (aj w (F z))).natAbs<=(1259949000000*F z (aj w (F z))).natAbs:=fun z z1 z2=>by
  have:=f.gD.pos z z2;have:=f.KC i hi (aj w (F z));omega
 have k4:=f.k4;obtain⟨s1,_⟩:=qu f.gD (E:=629856) (N:=1259949000000) (Q:=1259949000000) om om om ho lo hic hv hl om om;have s2:=sq f.gD (E:=629856) (N:=1259949000000) (Q:=1259949000000) om om om ho lo hic hv hl K (Nat.le_refl _);refine⟨s1,?_⟩;have XW:=Hl (w:=w) (k:=K) (F:=F) (c:=aj w (F i)) (v:=F i) hi K (Nat.le_refl _) (fun z _ hz e=>by rw[e]at hz;omega);rw[jf]at XW;have e3:∀j,j<=aj w (F i)->bK w F (aj w (F i)) K (F i) j=F i j:=fun j hj=>s2.cJ j (fun z z1 z2=>by have:=hic z z1 z2;omega)
 have r3:=s2.red;generalize bK w F (aj w (F i)) K (F i)=u at *;have Lq:=gn (F:=F) (k:=i) u;have F2:∀y,y≠i->put F i u y=F y:=fun y hy=>fO u hy
 have XX:aj w u=aj w (F i):=iC (mR _ _) (fun j hj=>by rw[e3 j om];exact bD hj) (fun q=>by rw[e3 _ (Nat.le_refl _)];exact lg q);have hle:∀y,aj w (put F i u y)=aj w (F y):=fun y=>by
  by_cases e:y=i
  ·rw[e,Lq,XX]
  ·rw[F2 y e]
 have uj:Br w K (put F i u):=⟨fun y hy=>by rw[hle];exact f.gD.lt y hy,fun y hy=>by
  rw[hle];by_cases e:y=i
  ·rw[e,Lq,e3 _ (Nat.le_refl _)];exact f.gD.pos i hi
  ·rw[F2 y e];exact f.gD.pos y hy,fun y z h1 h2=>by rw[hle,hle];exact f.gD.inc y z h1 h2⟩
 have Aq:∀y z,i<=y->y<z->z<K->0<=put F i u y (aj w (put F i u z))/\put F i u y (aj w (put F i u z))<put F i u z (aj w (put F i u z)):=fun y z h1 h2 h3=>by
  rw[hle,F2 z om];by_cases e:y=i
  ·rw[e,Lq];exact r3 z om h3
  ·rw[F2 y e];exact f.red y z om h2 h3
 have DT:=XW.trans f.CC;refine⟨uj,DT,fun y hy j=>?_,Aq,f.k4,f.hM⟩;by_cases e:y=i
 ·have:=uj.small DT f.hM f.k4 hy (fun m q1 q2=>Aq y m om q1 q2) j
  omega
 ·rw[F2 y e];exact f.KC y hy j
theorem su.N6{w K:Nat}{F F0:Nat->aN}(f:su w K 0 F F0):FO w K F:=⟨f.gD.lt,f.gD.pos,f.gD.inc,fun y z h1 h2=>f.red y z (Nat.zero_le _) h1 h2⟩
theorem FO.small{w K:Nat}{F F0:Nat->aN}(h:FO w K F)(l:kH w K F F0)(hM:∀i,i<K->∀j,(F0 i j).natAbs<=9)(k4:K<=4){i:Nat}(hi:i<K)(j:Nat):(F i j).natAbs<=629856:=
 h.gD.small l hM k4 hi (fun m q1 q2=>h.red i m q1 q2) j
theorem ze{w k a:Nat}{F:Nat->aN}{u:aN}{F0:Nat->aN}(b:jd w k F u F0)(hM:∀i,i<k+1->∀j,(F0 i j).natAbs<=9)(ak:a<=k)(lo:∀y,y<a->aj w (F y)<aj w u)(hi:∀z,a<=z->z<k->aj w u<aj w (F z))(hp:0<u (aj w u))(hu:∀j,(u j).natAbs<=1259949000000):su w (k+1) (k+1) (jP F a u) F0:=by
 have v1:∀y,y<a->jP F a u y=F y:=fun y hy=>zd u hy
 have v2:jP F a u a=u:=CD u;have v3:∀y,a<y->jP F a u y=F (y-1):=fun y hy=>CE u hy
 have cs:∀y,y<k+1->(y<a/\jP F a u y=F y)\/(y=a/\jP F a u y=u)\/(a<y/\jP F a u y=F (y-1)):=fun y hy=>by
  rcases Nat.lt_trichotomy y a with q|q|q
  ·exact .inl ⟨q,v1 y q⟩
  ·exact .inr (.inl ⟨q,by rw[q];exact v2⟩)
  ·exact .inr (.inr ⟨q,v3 y q⟩)
 have k3:=b.k3;have c3:=QO;refine⟨⟨fun y hy=>?_,fun y hy=>?_,fun y z h1 h2=>?_⟩,(I5 (k-a) a k om).trans b.CC,fun y hy j=>?_,fun y z h1 h2 h3=>om,om,hM⟩
 ·rcases cs y hy with ⟨q,e⟩|⟨q,e⟩|⟨q,e⟩<;>rw[e]
  ·exact b.gD.lt y om
  ·exact b.lead
  ·exact b.gD.lt (y-1) om
 ·rcases cs y hy with ⟨q,e⟩|⟨q,e⟩|⟨q,e⟩<;>rw[e]
  ·exact b.gD.pos y om
  ·exact hp
  ·exact b.gD.pos (y-1) om
 ·rcases cs y om with ⟨q,e⟩|⟨q,e⟩|⟨q,e⟩<;>rw[e]<;>rcases cs z h2 with ⟨q2,e2⟩|⟨q2,e2⟩|⟨q2,e2⟩<;>rw[e2]
  ·exact b.gD.inc y z h1 om
  ·exact lo y q
  ·rcases Nat.lt_or_ge y (z-1)with r|r
   ·exact b.gD.inc y (z-1) r om
   ·omega
  ·omega
  ·omega
  ·exact hi (z-1) om om
  ·omega
  ·omega
  ·exact b.gD.inc (y-1) (z-1) om om
 ·rcases cs y hy with ⟨q,e⟩|⟨q,e⟩|⟨q,e⟩<;>rw[e]
  ·have:=b.KC y om j;omega
  ·exact hu j
  ·have:=b.KC (y-1) om j;omega
theorem UD{w k a:Nat}{F:Nat->aN}{u:aN}{F0:Nat->aN}(b:jd w k F u F0)(ak:a<=k)(ho:Old w k a F 13122)(lo:∀y,y<a->aj w (F y)<aj w u)(hi:∀z,a<=z->z<k->aj w u<aj w (F z))(hn:u (aj w u)<0)(hu:∀j,(u j).natAbs<=(cb 3).natAbs)
  (ru:∀z,a<=z->z<k->0<=u (aj w (F z))/\u (aj w (F z))<F z (aj w (F z))) {v:aN} (ev:v=fun j=>u j-2*u j):aj w v=aj w u/\lP w F (aj w u) k v/\jd w k F (bK w F (aj w u) k v) F0/\aj w (bK w F (aj w u) k v)=aj w u/\0<bK w F (aj w u) k v (aj w u)/\∀j,(bK w F (aj w u) k v j).natAbs<=1259949000000:=by
 have hv:∀j,v j=-(u j):=fun j=>by rw[ev];show u j-2*u j=-(u j);omega
 have b1:jd w k F v F0:=⟨b.gD,by
  have h:=kH.neg (w:=w) (k:=k+1) (F:=put F k u) (r:=k) om;rw[jg,gn]at h;have e:(fun j=>-(u j))=v:=by funext j;rw[hv]
  rw[e]at h;exact h.trans b.CC,b.KC,b.k3,b.nz⟩
 have hl:aj w v=aj w u:=iC (mR _ _) (fun j hj=>by rw[hv,bD hj];rfl) (fun q=>by rw[hv];have:=lg q;omega);have ZR:∀z,z<a->z<k->aj w (F z)<=aj w u:=fun z z1 _=>Nat.le_of_lt (lo z z1)
 have hN:∀j,(v j).natAbs<=(1259948825856:Int).natAbs:=fun j=>by rw[hv];have:=hu j;have:=QO;omega
 have hQ:∀z,a<=z->z<k->(v (aj w (F z))).natAbs<=(1*F z (aj w (F z))).natAbs:=fun z z1 z2=>by rw[hv];have:=ru z z1 z2;omega
 have k3:=b.k3;obtain⟨s1,s2⟩:=qu b.gD (E:=13122) (N:=1259948825856) (Q:=1) om om om ho ZR hi hN hQ om om;have s3:=sq b.gD (E:=13122) (N:=1259948825856) (Q:=1) om om om ho ZR hi hN hQ k (Nat.le_refl _);have e3:∀j,j<=aj w u->bK w F (aj w u) k v j=v j:=fun j hj=>s3.cJ j (fun z z1 z2=>by have:=hi z z1 z2;omega)
 refine⟨hl,s1,b1.low _,iC (mR _ _) (fun j hj=>by rw[e3 j om,hv,bD hj];rfl) (fun q=>by rw[e3 _ (Nat.le_refl _),hv];omega),by rw[e3 _ (Nat.le_refl _),hv];omega,fun j=>by have:=s2 j;omega⟩
theorem N7{w k:Nat}{F F0:Nat->aN}(h:FO w k F)(l:kH w k F F0)(hM:∀i,i<k+1->∀j,(F0 i j).natAbs<=9)(k3:k<=3)(nz:∃d J I,(∀i,i<d->J i<w)/\prod d (rv (k+1) F0 J) (k+1) I≠0):jd w k F (F0 k) F0/\∃a,KD w k a F (F0 k) 9 9:=by
 have hk:k=0\/k=1\/k=2\/k=3:=om
 have FQ:k*(sN k k*9 ^ k)<=13122:=by rcases hk with rfl|rfl|rfl|rfl<;>decide
 have xM:sN k k*9 ^ k<=4374:=by rcases hk with rfl|rfl|rfl|rfl<;>decide
 have uf:∀z,z<k->∀j,(F z j).natAbs<=13122:=fun z hz j=>Nat.le_trans (kH.bound h.gD l (fun i hi=>hM i om) hz (fun m hm=>by
  rcases Nat.lt_trichotomy m z with q|q|q
  ·rw[bD (w:=w) (v:=F z) (h.inc m z q hz)];exact Nat.zero_le _
  ·rw[q];exact Nat.le_refl _
  ·have:=h.red z m q hm;omega) j) FQ
 have hD:=kH.leads h.gD l (fun i hi=>hM i om);have c3:=QO;have b:jd w k F (F0 k) F0:=⟨h.gD,by
  have:=l.more (F0 k);rw[jf]at this;exact this,fun y hy j=>by have:=uf y hy j;omega,k3,nz⟩
 refine⟨b,?_⟩;obtain⟨a,p1,p2,p3⟩:=h.gD.parts (aj w (F0 k));refine⟨a,p1,p2,p3,⟨fun z _ hz j=>uf z hz j,fun y z _ h2 h3=>h.red y z h2 h3⟩,om,om,fun j=>hM k om j,fun z _ hz=>?_,?_⟩
 ·have:=h.pos z hz
  have:=hM k om (aj w (F z));omega
 ·have q1:=CA (f:=zb w F) (k:=k) (fun i hi=>h.pos i hi) a 0 om
  rw[Nat.zero_add,Nat.sub_zero,Fe]at q1;have q2:fX (zb w F) k<=4374:=by
   have Xb:fX (zb w F) k<=((sN k k*9 ^ k:Nat):Int):=hD;omega
  have q3:=Int.mul_le_mul_of_nonneg_left (show Pt (zb w F) a (k-a)<=4374 by omega) (show(0:Int)<=9+7*(9*13122) by omega);have q4:=tK (a:=0) (b:=a) om;have q5:cb 0=3673320192:=by decide
  omega
theorem lQ{w k c:Nat}{F G:Nat->aN}{v:aN}(e:∀z,z<k->G z=F z):∀y,y<=k->bK w G c y v=bK w F c y v
 |0,_=>rfl
 |y+1,hy=>by
  show(if c<aj w (G y)then(fun j=>bK w G c y v j-bK w G c y v (aj w (G y)) / G y (aj w (G y))*G y j)else bK w G c y v)=_;rw[e y om,lQ e y om];rfl
theorem lP.congr{w k c:Nat}{F G:Nat->aN}{v:aN}(e:∀z,z<k->G z=F z)(h:lP w F c k v):lP w G c k v:=fun y hy hc j=>by
 rw[e y hy]at hc ⊢;rw[lQ e y om,lQ e (y+1) om];exact h y hy hc j
theorem Br.congr{w k:Nat}{F G:Nat->aN}(e:∀z,z<k->G z=F z)(h:Br w k F):Br w k G:=
 ⟨fun i hi=>by rw[e i hi];exact h.lt i hi,fun i hi=>by rw[e i hi];exact h.pos i hi,fun i j hi hj=>by rw[e i om,e j hj];exact h.inc i j hi hj⟩
theorem Old.congr{w k a:Nat}{F G:Nat->aN}{E:Int}(e:∀z,z<k->G z=F z)(h:Old w k a F E):Old w k a G E:=
 ⟨fun z h1 h2 j=>by rw[e z h2];exact h.le z h1 h2 j,fun y z h1 h2 h3=>by rw[e y om,e z h3];exact h.red y z h1 h2 h3⟩
theorem jd.congr{w k:Nat}{F G F0:Nat->aN}{v:aN}(e:∀z,z<k->G z=F z)(b:jd w k F v F0):jd w k G v F0:=
 ⟨b.gD.congr e,(kH.of_eq (fun i hi=>by unfold put;split;rfl;exact e i om)).trans b.CC,fun y hy j=>by rw[e y hy];exact b.KC y hy j,b.k3,b.nz⟩
theorem Bg{w k a:Nat}{F G:Nat->aN}(e:∀z,z<k->G z=F z)(ha:a<=k):Pt (zb w G) a (k-a)=Pt (zb w F) a (k-a):=
 za _ _ (fun i h1 h2=>by unfold zb;rw[e i om])
theorem KD.congr{w k a:Nat}{F G:Nat->aN}{v:aN}{N Q:Int}(e:∀z,z<k->G z=F z)(h:KD w k a F v N Q):KD w k a G v N Q:=
 ⟨h.ak,fun y hy=>by rw[e y (by have:=h.ak;omega)];exact h.lo y hy,fun z h1 h2=>by rw[e z h2];exact h.hi z h1 h2,h.cJ.congr e,h.n0,h.q1,h.le,fun z h1 h2=>by rw[e z h2];exact h.ld z h1 h2,by rw[Bg e h.ak];exact h.N3⟩
theorem N4.congr{w k a:Nat}{F G:Nat->aN}{v:aN}{n m:Int}(e:∀z,z<k->G z=F z)(h:N4 w k a F v n m):N4 w k a G v n m:=
 ⟨h.ak,fun y hy=>by rw[e y (by have:=h.ak;omega)];exact h.lo y hy,by rw[e a h.ak];exact h.eq,h.cJ.congr e,by rw[e a h.ak];exact h.xy,fun z h1 h2=>by rw[e z h2];exact h.rv z h1 h2,fun z h1 h2=>by rw[e z h2,e a h.ak];exact h.rf z h1 h2,h.vn,fun j=>by rw[e a h.ak];exact h.fm j,by rw[Bg e (by have:=h.ak;omega),e a h.ak];exact h.N3⟩
structure F4(w k:Nat)(A F0:Nat->aN)(D M:Nat):Prop where
 base:jd w k A (A k) F0
 st:(∃a N Q,KD w k a A (A k) N Q)\/(∃a n m,N4 w k a A (A k) n m)
 m0:w-aj w (A k)<=D
 m1:∀a,a<k->aj w (A a)=aj w (A k)->(A a (aj w (A k))).toNat<=M
theorem F4.low{w k D M:Nat}{A F0:Nat->aN}(r:F4 w k A F0 D M):lP w A (aj w (A k)) k (A k)/\jd w k A (bK w A (aj w (A k)) k (A k)) F0:=by
 refine⟨?_,r.base.low _⟩;rcases r.st with ⟨a,N,Q,h⟩|⟨a,n,m,h⟩
 ·exact(h.low r.base).1
 ·exact(h.low r.base).2
def SQ(w k:Nat)(A F0:Nat->aN)(a:Nat)(u2:aN)(D M:Nat):Prop:=
 (u2 (aj w (A a))=0/\∃D' M',D'<D/\F4 w k (put A k u2) F0 D' M') \/
 (u2 (aj w (A a))≠0/\aj w u2=aj w (A a)/\lP w A (aj w (A a)) k u2/\aj w (bK w A (aj w (A a)) k u2)=aj w (A a)/\∃M',M'<M/\F4 w k (put (put A a (bK w A (aj w (A a)) k u2)) k (A a)) F0 D M')
theorem F4.next{w k a D M:Nat}{A F0:Nat->aN}{u2:aN}(ha:a<k)(he:aj w (A a)=aj w (A k))(hD:w-aj w (A a)<=D)(hM:(A a (aj w (A a))).toNat<=M)(n:Next w k F0 A a u2):SQ w k A F0 a u2 D M:=by
 rcases n with ⟨n1,n2,b,a',N,Q,f⟩|⟨n1,n2,n3,n4,n5,b,n',m',f⟩
 ·have hk:put A k u2 k=u2:=gn u2
  have e:∀z,z<k->put A k u2 z=A z:=fun z hz=>fO u2 om
  have bl:=b.lead;refine .inl ⟨n1,w-aj w u2,(cb 3).toNat,om,by rw[hk];exact b.congr e,.inl ⟨a',N,Q,by rw[hk];exact f.congr e⟩,by rw[hk];exact Nat.le_refl _,fun z hz _=>?_⟩;rw[hk,e z hz];have:=b.KC z hz (aj w u2);have c3:=QO;omega
 ·have h0:=b.gD.pos a ha
  rw[gn,n4]at h0;refine .inr ⟨n1,n2,n3,n4,(bK w A (aj w (A a)) k u2 (aj w (A a))).toNat,om,?_⟩;generalize bK w A (aj w (A a)) k u2=u at *;have hk:put (put A a u) k (A a) k=A a:=gn _;have e:∀z,z<k->put (put A a u) k (A a) z=put A a u z:=fun z hz=>fO _ om
  have ea:put A a u a=u:=gn u;refine⟨by rw[hk];exact b.congr e,.inr ⟨a,n',m',by rw[hk];exact f.congr e⟩,by rw[hk];omega,fun z hz hle=>?_⟩;rw[hk,e z hz]at hle ⊢;by_cases c:z=a
  ·rw[c,ea];exact Nat.le_refl _
  ·exfalso
   rw[fO u c]at hle;have h1:=b.gD.inc;rcases Nat.lt_or_gt_of_ne c with q|q
   ·have:=h1 z a q ha;rw[fO u c,ea,n4]at this;omega
   ·have:=h1 a z q hz;rw[fO u c,ea,n4]at this;omega
theorem F4.step{w k a D M:Nat}{A F0:Nat->aN}(r:F4 w k A F0 D M)(ha:a<k)(he:aj w (A a)=aj w (A k)){u u2:aN}(eu:u=bK w A (aj w (A k)) k (A k)){q:Int}(eq:q=u (aj w (A k)) / A a (aj w (A k)))(e2:u2=fun j=>u j-q*A a j) :
  (∀j,(u j).natAbs<=9000000000000000000/\(q*A a j).natAbs<=9000000000000000000/\(u j-q*A a j).natAbs<=9000000000000000000)/\SQ w k A F0 a u2 D M:=by
 have hM:=r.m1 a ha he;have hD:=r.m0;rw[<-he]at hM hD;have b:=r.base;have k3:=b.k3;have c3:=QO;rcases r.st with ⟨a0,N,Q,h⟩|⟨a0,n,m,h⟩
 ·have ea:a0=a:=by
   rcases Nat.lt_trichotomy a0 a with c|c|c
   ·have:=h.hi a0 (Nat.le_refl _) om;have:=b.gD.inc a0 a c ha;omega
   ·exact c
   ·have:=h.lo a c;omega
  subst ea;obtain⟨s1,s2⟩:=QP b h ha he eu eq;rw[<-e2]at s2;have l2:=(h.low b).2.1;rw[<-eu]at l2;have ht:=h.top b;have hc:=Bf (a:=a0) om;have hn:=h.n0;have hq:=h.q1;exact⟨fun j=>⟨by have:=l2 j;omega,(s1 j).1,(s1 j).2⟩,F4.next ha he hD hM s2⟩
 ·have ea:a0=a:=PH (p:=fun i=>aj w (A i)) b.gD.inc h.ak ha (by show aj w (A a0)=aj w (A a);rw[h.eq,he])
  subst ea;have me:=(h.low b).1 k (Nat.le_refl _);rw[me]at eu;subst eu;obtain⟨s1,s2⟩:=QQ b h eq;rw[<-e2]at s2;have hv:∀j,(A k j).natAbs<=9000000000000000000:=fun j=>by
   have h1:=h.vn j;have hP:=ss (f:=zb w A) (k-(a0+1)) (a0+1) (fun i h1 h2=>b.gD.pos i om);have Px:=h.y0 b;have hx:=h.xy;have hn:0<=n:=by have:=h.vn 0;omega
   have hm:0<=m:=by have:=h.fm 0;omega
   have b1:=h.N3;have b2:0<=n*A a0 (aj w (A k)):=Int.mul_nonneg hn om;have b3:0<=m*A k (aj w (A k)):=Int.mul_nonneg hm om;have b4:=mN (show 0<=n*A a0 (aj w (A k))+m*A k (aj w (A k)) by omega) hP;have b5:=mN hn Px;have b6:=Bf (a:=a0) om;omega
  exact⟨fun j=>⟨hv j,(s1 j).1,(s1 j).2⟩,F4.next ha he hD hM s2⟩
theorem F4.own{w k a D M:Nat}{A F0:Nat->aN}(r:F4 w k A F0 D M)(hM:∀i,i<k+1->∀j,(F0 i j).natAbs<=9)(ak:a<=k)(lo:∀y,y<a->aj w (A y)<aj w (A k))(hi:∀z,a<=z->z<k->aj w (A k)<aj w (A z)){u:aN}(eu:u=bK w A (aj w (A k)) k (A k)) :
  aj w u=aj w (A k)/\(∀j,(u j).natAbs<=1259948825856)/\(0<u (aj w (A k))->su w (k+1) (k+1) (jP A a u) F0) /\
  (u (aj w (A k))<0->∀v,v=(fun j=>u j-2*u j)->aj w v=aj w (A k)/\lP w A (aj w (A k)) k v/\su w (k+1) (k+1) (jP A a (bK w A (aj w (A k)) k v)) F0):=by
 have b:=r.base;have bu:=b.low (aj w (A k));have k3:=b.k3;have c3:=QO;obtain⟨a0,N,Q,h⟩:∃a N Q,KD w k a A (A k) N Q:=by
  rcases r.st with h|⟨a0,n,m,h⟩
  ·exact h
  ·exfalso
   have:=h.eq;rcases Nat.lt_or_ge a0 a with c|c
   ·have:=lo a0 c;omega
   ·have:=hi a0 c h.ak;omega
 have ea:a0=a:=by
  rcases Nat.lt_trichotomy a0 a with c|c|c
  ·have:=h.hi a0 (Nat.le_refl _) om;have:=lo a0 c;omega
  ·exact c
  ·have:=h.lo a c;have:=hi a (Nat.le_refl _) (by have:=h.ak;omega);omega
 subst ea;obtain⟨_,l2,l3,l4⟩:=h.low b;rw[<-eu]at l2 l3 l4 bu;have ht:=h.top b;have hc:=Bf (a:=a0) om;have hn:=h.n0;have hq:=h.q1;have hu:∀j,(u j).natAbs<=1259948825856:=fun j=>by have:=l2 j;omega
 have hl:aj w u=aj w (A k):=iC (mR _ _) (fun j hj=>by rw[l3 j om];exact bD hj) (fun q=>by rw[l3 _ (Nat.le_refl _)];exact lg q);refine⟨hl,hu,fun hp=>ze bu hM ak (fun y hy=>by rw[hl];exact lo y hy) (fun z z1 z2=>by rw[hl];exact hi z z1 z2) (by rw[hl];exact hp) (fun j=>by have:=hu j;omega),fun aaS v ev=>?_⟩;obtain⟨n1,n2,n3,n4,n5,n6⟩:=UD bu ak h.cJ (fun y hy=>by rw[hl];exact lo y hy) (fun z z1 z2=>by rw[hl];exact hi z z1 z2) (by rw[hl];exact aaS) (fun j=>by have:=hu j;omega) (fun z z1 z2=>l4 z z1 z2 (hi z z1 z2)) ev;rw[hl]at n1 n2 n3 n4 n5 n6;exact⟨n1,n2,ze n3 hM ak (fun y hy=>by rw[n4];exact lo y hy) (fun z z1 z2=>by rw[n4];exact hi z z1 z2) (by rw[n4];exact n5) n6⟩
theorem F4.start{w k:Nat}{A F0:Nat->aN}(h:FO w k A)(l:kH w k A F0)(hM:∀i,i<k+1->∀j,(F0 i j).natAbs<=9)(k3:k<=3)(nz:∃d J I,(∀i,i<d->J i<w)/\prod d (rv (k+1) F0 J) (k+1) I≠0)(hk:A k=F0 k):∃D M,F4 w k A F0 D M:=by
 obtain⟨b,a,f⟩:=N7 h l hM k3 nz;rw[<-hk]at b f;refine⟨w-aj w (A k),(cb 3).toNat,b,.inl ⟨a,9,9,f⟩,Nat.le_refl _,fun z hz _=>?_⟩;have:=b.KC z hz (aj w (A k));have c3:=QO;omega
end Go.Proofs.Ytdpbiegfljmhmaa.Ext
namespace Go.Proofs.Ytdpbiegfljmhmaa
open Go.cL
set_option maxRecDepth 100000
def nC(x:Int):List Value:=[.int .i64 x]
theorem fv(x:Int):(nC x).length=1:=rfl
theorem Ff(x:Int):(nC x).all aD=true:=rfl
structure dK(h0 h:af)(n w:Nat)(bs:Nat->Nat)(F:Nat->Ext.aN):Prop where
 ext:Ext h0 h
 row:∀y,y<n->aJ h (bs y) 1 ((kM (F y) w).flatMap nC)
 cJ:∀y,y<n->h0.next<=bs y
 lt:∀y,y<n->bs y<h.next
 inj:∀y z,y<n->z<n->bs y=bs z->y=z
section
variable{h0 h:af}{n w:Nat}{bs:Nat->Nat}{F:Nat->Ext.aN}
theorem dK.more{h':af}(t:dK h0 h n w bs F)(e:Ext h h'):dK h0 h' n w bs F:=
 ⟨t.ext.trans e,fun y hy=>(t.row y hy).ext e (t.lt y hy),t.cJ,fun y hy=>Nat.lt_of_lt_of_le (t.lt y hy) e.next,t.inj⟩
theorem dK.dF{h':af}(t:dK h0 h n w bs F)(e:Ext h0 h')(hn:h.next<=h'.next)(hk:∀y,y<n->h'.m.get (bs y)=h.m.get (bs y)):dK h0 h' n w bs F:=
 ⟨e,fun y hy=>(t.row y hy).gF (hk y hy),t.cJ,fun y hy=>Nat.lt_of_lt_of_le (t.lt y hy) hn,t.inj⟩
theorem dK.congr{G:Nat->Ext.aN}(t:dK h0 h n w bs F)(e:∀y x,y<n->x<w->F y x=G y x):dK h0 h n w bs G:=
 ⟨t.ext,fun y hy=>by rw[<-ik (fun x hx=>e y x hy hx)];exact t.row y hy,t.cJ,t.lt,t.inj⟩
theorem dK.jB(t:dK h0 h n w bs F){y:Nat}(hy:y<n):Rows nC 1 h (some ⟨bs y,0,none⟩) w (kM (F y) w):=by
 have r:=aJ.rows (t.row y hy) fv om (t.lt y hy);rw[bP]at r;exact r
theorem dK.el(t:dK h0 h n w bs F){y x:Nat}(hy:y<n)(hx:x<w):h.aL ⟨bs y,0+x*1,none⟩ 1=some [.int .i64 (F y x)]:=by
 obtain⟨b,o,e,_,r⟩:=(t.jB hy).at (i:=(x:Int)) om om;cases e;have:=r 0 1 om om;rw[gm _ hx,List.drop_zero,List.take_of_length_le (by rw[fv];omega)]at this;exact this
def tD(F:Nat->Ext.aN)(y x:Nat)(v:Int):Nat->Ext.aN:=fun a b=>if a=y/\b=x then v else F a b
theorem dK.set(t:dK h0 h n w bs F){y x:Nat}(hy:y<n)(hx:x<w)(v:Int) :
  ∃h',h.write (bs y) (0+x*1) [.int .i64 v]=some h'/\dK h0 h' n w bs (tD F y x v)/\jV h h' (bs y):=by
 obtain⟨h',w1,w2,w3⟩:=aJ.setRow (t.row y hy) fv (i:=x) (by rw[bP];exact hx) v;refine⟨h',by rw[Nat.zero_add];exact w1,⟨w3.ext t.ext (t.cJ y hy),fun z hz=>?_,t.cJ,fun z hz=>by rw[w3.next];exact t.lt z hz,t.inj⟩,w3⟩;by_cases e:z=y
 ·subst e
  rw[wv]at w2;have:kM (tD F z x v z) w=kM (fun j=>if j=x then v else F z j) w:=ik (fun i hi=>by unfold tD;simp);rw[this];exact w2
 ·have:kM (tD F y x v z) w=kM (F z) w:=ik (fun i hi=>by unfold tD;rw[if_neg (fun q=>e q.1)])
  rw[this];exact(t.row z hz).gF (w3.get _ (fun q=>e (t.inj z y hz hy q)))
end
structure kp(h h':af)(b:Nat):Prop where
 next:h.next<=h'.next
 get:∀c,c<h.next->c≠b->h'.m.get c=h.m.get c
theorem kp.refl(h:af)(b:Nat):kp h h b:=⟨Nat.le_refl _,fun _ _ _=>rfl⟩
theorem kp.wrote{h h' h2:af}{b:Nat}(t:kp h h' b)(w:jV h' h2 b):kp h h2 b:=
 ⟨by rw[w.next];exact t.next,fun c hc ne=>by rw[w.get c ne];exact t.get c hc ne⟩
theorem kp.ext{h h' h2:af}{b:Nat}(t:kp h h' b)(w:Ext h' h2):kp h h2 b:=
 ⟨Nat.le_trans t.next w.next,fun c hc ne=>by rw[w.get c (Nat.lt_of_lt_of_le hc t.next)];exact t.get c hc ne⟩
theorem kp.trans{h h' h2:af}{b:Nat}(t:kp h h' b)(w:kp h' h2 b):kp h h2 b:=
 ⟨Nat.le_trans t.next w.next,fun c hc ne=>by rw[w.get c (Nat.lt_of_lt_of_le hc t.next) ne];exact t.get c hc ne⟩
def CF(F:Nat->Ext.aN)(r j:Nat)(g:Ext.aN):Nat->Ext.aN:=fun y x=>if y=r/\x<j then g x else F y x
def kN(bs:Nat->Nat)(w k:Nat):List Hd:=kM (fun y=>(⟨some ⟨bs y,0,none⟩,w,au 1 w⟩:Hd)) k
structure oC(h0 h:af)(sb k n w:Nat)(ra:Option Addr)(rc:Nat)(bs:Nat->Nat)(F:Nat->Ext.aN):Prop where
 rows:dK h0 h n w bs F
 own:aJ h sb 1 [.slice ra k rc]
 o8:nK h 1 ra k rc ((kN bs w k).flatMap Hd.cells)
 kn:k<=n
 s0:h0.next<=sb
 s1:sb<h.next
 fr:jY h0.next ra
 SR:∀y,y<n->bs y≠sb
 F5:∀ad,ra=some ad->ad.block≠sb/\∀y,y<n->ad.block≠bs y
section
variable{h0 h:af}{sb k n w rc:Nat}{ra:Option Addr}{bs:Nat->Nat}{F:Nat->Ext.aN}
theorem oC.head(t:oC h0 h sb k n w ra rc bs F){y:Nat}(hy:y<k):∃b,ra=some ⟨b,0,none⟩/\b<h.next/\h.aL ⟨b,0+y*1,none⟩ 1=some [.slice (some ⟨bs y,0,none⟩) w (au 1 w)]:=by
 rcases t.o8 with ⟨_,q,_⟩|⟨b,e,_,hb,hl,ho⟩
 ·omega
 refine⟨b,e,hb,?_⟩;have r:=aJ.rows ho fF om hb;rw[show(kN bs w k).length=k from bP _ _]at r;obtain⟨b',o,e',_,q⟩:=r.at (i:=(y:Int)) om om;cases e';have:=q 0 1 om om;unfold kN at this;rw[gm _ hy]at this;exact this
theorem oC.more{h':af}(t:oC h0 h sb k n w ra rc bs F)(e:Ext h h'):oC h0 h' sb k n w ra rc bs F:=
 ⟨t.rows.more e,t.own.ext e t.s1,t.o8.ext e,t.kn,t.s0,Nat.lt_of_lt_of_le t.s1 e.next,t.fr,t.SR,t.F5⟩
theorem oC.put{h':af}{G:Nat->Ext.aN}{r:Nat}(t:oC h0 h sb k n w ra rc bs F)(hr:r<n)(m:dK h0 h' n w bs G)(o:kp h h' (bs r)):oC h0 h' sb k n w ra rc bs G:=
 ⟨m,t.own.gF (o.get sb t.s1 (fun e=>t.SR r hr e.symm)),t.o8.gF o.next (fun ad cW hl=>o.get _ hl ((t.F5 ad cW).2 r hr)),t.kn,t.s0,Nat.lt_of_lt_of_le t.s1 o.next,t.fr,t.SR,t.F5⟩
theorem oC.congr{G:Nat->Ext.aN}(t:oC h0 h sb k n w ra rc bs F)(e:∀y x,y<n->x<w->F y x=G y x):oC h0 h sb k n w ra rc bs G:=
 ⟨t.rows.congr e,t.own,t.o8,t.kn,t.s0,t.s1,t.fr,t.SR,t.F5⟩
end
theorem Ext.re{w:Nat}{F:Nat->Ext.aN}{c:Nat}{v:Ext.aN}:∀y,∀j,j<=c->Ext.bK w F c y v j=v j
 |0,j,_=>rfl
 |y+1,j,hj=>by
  show(if c<Ext.aj w (F y)then(fun j=>Ext.bK w F c y v j-Ext.bK w F c y v (Ext.aj w (F y)) / F y (Ext.aj w (F y))*F y j)else Ext.bK w F c y v) j=v j;split
  ·rename_i q
   show Ext.bK w F c y v j-Ext.bK w F c y v (Ext.aj w (F y)) / F y (Ext.aj w (F y))*F y j=v j;rw[Ext.bD (w:=w) (v:=F y) (j:=j) om,Int.mul_zero,Int.sub_zero];exact Ext.re y j hj
  ·exact Ext.re y j hj
theorem Ext.Fg{w:Nat}{F:Nat->Ext.aN}{v:Ext.aN}(y:Nat):Ext.aj w (Ext.bK w F (Ext.aj w v) y v)=Ext.aj w v:=
 Ext.iC (Ext.mR _ _) (fun j hj=>by rw[Ext.re y j om];exact Ext.bD hj) (fun q=>by rw[Ext.re y _ (Nat.le_refl _)];exact Ext.lg q)
variable{F:bg}{call head arith b0 d0 f0 g0 i0 neg j0 k0 ofNat l0 place o0 nz p0 rd wr r0 next t0 u0 v0 w0 x0 z0 d1 g1 i1 j1 o1 t1 u1 fresh aw aH wrote bZ lt ne a2 d2 g2 yn i2 j2 o2 a3 d3 f3:_}(hA:AP F ⟨call,head,arith,b0,d0,f0,g0,i0,neg,j0,k0,ofNat,l0,place,o0,nz,p0,rd,wr,r0,next,t0,u0,v0,w0,x0,z0,d1,g1,i1,j1,o1,t1,u1,fresh,aw,aH,wrote,bZ,lt,ne,a2,d2,g2,yn,i2,j2,o2,a3,d3,f3⟩)
include hA
theorem KE{b w c:Nat}{v:Ext.aN}{h:af}(hw:w<=1000)(hr:∀x,x<w->h.aL ⟨b,0+x*1,none⟩ 1=some [.int .i64 (v x)]){W:Int}(eW:W=w){Q:Exit->SS->Prop}
  (lM:∀L,L=(Ext.aj w v:Int)->Ext.aj w v<w->Q .ret ⟨[(2,.int .i64 L),(14,.int .i64 L),(3,.int .i64 L)],0,[],h⟩)
  (fQ:∀(kn:Nat) (T:List (Nat×List Value)),Ext.aj w v=w->Q (.exit 0) ⟨[(0,.slice (some ⟨b,0,none⟩) w c)],kn,T,h⟩) :
  ∀(d j:Nat) (J:Int),w-j<=d->j<=w->J=j->(∀i,i<j->v i=0)->
   head 56 2 0 ⟨[(0,.slice (some ⟨b,0,none⟩) w c),(5,.slice (some ⟨b,0,none⟩) w c),(6,.int .i64 W),(7,.int .i64 J)],0,[],h⟩ Q:=by
 refine oR (fun d ih=>?_);intro j J hd hj eJ hz;by_cases cj:j<w
 rotate_left
 ·refine hA.ar Try.func56 x56.2 (zc ?_)
  refine br (J<W) (by rw[aB hA]) (fun q=>om) (fun _=>?_)<;>refine zc ?_;exact fQ _ _ (Ext.iC (Nat.le_refl _) (fun i hi=>hz i om) (fun q=>om))
 obtain⟨d,rfl⟩:∃k,d=k+1:=⟨d-1,om⟩
 replace ih:=ih d rfl
 obtain⟨x,hx⟩:∃z,z=v j:=⟨_,rfl⟩;have r1:rd h b (place 0 J 1) 1 [.int .i64 x]:=aC hA (by rw[eJ,hx];exact hr j cj);refine hA.ar Try.func56 x56.2 (zc ?_);refine br (J<W) (by rw[aB hA]) (fun _=>?_) (fun q=>om)<;>refine zc ?_;refine zq ?_;refine br (x≠0) (by rw[cD hA]) (fun e=>?_) (fun e=>?_)<;>refine zc ?_
 ·have hl:Ext.aj w v=j:=Ext.iC om hz (fun _=>by rw[<-hx];exact e)
  exact lM J om om
 ·rw[aF hA om om]
  refine ih (j+1) (J+1) om om om (fun i hi=>?_);by_cases ei:i=j
  ·rw[ei,<-hx];omega
  ·exact hz i om
theorem rh{b w c:Nat}{v:Ext.aN}{h:af}(aq:h.low<=h.next)(hw:w<=1000)(hr:∀x,x<w->h.aL ⟨b,0+x*1,none⟩ 1=some [.int .i64 (v x)]){Q:Value->af->Prop}(hQ:∀L:Int,L=Ext.aj w v->Q (.int .i64 L) h) :
  call 56 [.slice (some ⟨b,0,none⟩) w c] h Q:=by
 obtain⟨W,eW⟩:∃z:Int,z=w:=⟨_,rfl⟩;have e1:ofNat w=W:=by rw[eW];exact aR hA w
 refine hA.aQ Try.func56 x56.2 (hA.alike _ _ _ rfl) aq (zc ?_)
 (refine zq ?_;repeat ((first|rw[e1]);refine zq ?_))
 refine KE hA hw hr eW (fun L eL _=>?_) (fun kn T e=>?_) w 0 0 om om rfl (fun i hi=>om)
 ·refine zc ?_
  exact hQ L eL
 ·(refine zq ?_;repeat ((first|rw[e1]);refine zq ?_))
  exact hQ W om
theorem ri{a b:Int}(hb:0<b)(h1:-9000000000000000000<=a)(h2:a<=9000000000000000000){h:af}(aq:h.low<=h.next){Q:Value->af->Prop}(hQ:∀q,q=a / b->Q (.int .i64 q) h):call 68 [.int .i64 a,.int .i64 b] h Q:=by
 have q0:=Int.natAbs_tdiv_le_natAbs a b;obtain⟨t,et⟩:∃z,z=a.tdiv b:=⟨_,rfl⟩;obtain⟨r,er⟩:∃z,z=a.tmod b:=⟨_,rfl⟩;have k1:arith .quo .i64 a b=t:=by rw[et,Dw hA];exact wrap64 om om
 have k2:arith .rem .i64 a b=r:=by rw[er,H2 hA]
 have key:=Int.mul_tdiv_add_tmod a b;rw[<-et,<-er]at key;have BS:r<b:=by
  rw[er];have:=Int.tmod_lt_of_pos a hb;exact this
 have JY:-b<r:=by
  have h:=Int.neg_tmod a b;have:=Int.tmod_lt_of_pos (-a) hb;omega
 refine hA.aQ Try.func68 x68.2 (hA.alike _ _ _ rfl) aq (zc ?_);refine⟨dA hA om,?_⟩;refine zc ?_;rw[k1];refine zc ?_;refine⟨dA hA om,?_⟩;refine zc ?_;rw[k2];refine zc ?_;have hd:∀q:Int,(q*b<=a/\a<q*b+b)->q=a / b:=fun q ⟨z1,z2⟩=>by
  have y1:=Int.emod_nonneg a (show b≠0 by omega);have y2:=Int.emod_lt_of_pos a hb;have y3:=Int.emod_add_mul_ediv a b;rw[Int.mul_comm]at y3;rcases Int.lt_trichotomy q (a / b)with c|c|c
  ·have:=Int.mul_le_mul_of_nonneg_right (show q+1<=a / b by omega) (Int.le_of_lt hb)
   rw[Int.add_mul]at this;omega
  ·exact c
  ·have:=Int.mul_le_mul_of_nonneg_right (show a / b+1<=q by omega) (Int.le_of_lt hb)
   rw[Int.add_mul]at this;omega
 rw[Int.mul_comm]at key;refine br (r<0) (by rw[aB hA]) (fun c=>?_) (fun c=>?_)<;>refine zc ?_
 ·rw[bR hA om om]
  exact hQ _ (hd _ (by rw[Int.sub_mul];omega))
 ·exact hQ _ (hd _ om)
theorem KF{h0 hs:af}{n w r y c1 c2:Nat}{bs:Nat->Nat}{F:Nat->Ext.aN}{t:Int}(hr:r<n)(hy:y<n)(hw:w<=1000)(hb:∀x,x<w->(F r x).natAbs<=9000000000000000000/\(t*F y x).natAbs<=9000000000000000000/\(F r x-t*F y x).natAbs<=9000000000000000000){W:Int}(eW:W=w){Q:Exit->SS->Prop}
  (hQ:∀(h':af) (kn:Nat) (T:List (Nat×List Value)),dK h0 h' n w bs (CF F r w (fun x=>F r x-t*F y x))->kp hs h' (bs r)->Q (.exit 0) ⟨[],kn,T,h'⟩) :
  ∀(d j:Nat) (J:Int) (h:af),w-j<=d->j<=w->J=j->dK h0 h n w bs (CF F r j (fun x=>F r x-t*F y x))->kp hs h (bs r)->
   head 99 1 0 ⟨[(0,.slice (some ⟨bs r,0,none⟩) w c1),(1,.slice (some ⟨bs y,0,none⟩) w c2),(2,.int .i64 t),(8,.int .i64 W),(9,.int .i64 J)],0,[],h⟩ Q:=by
 refine oR (fun d ih=>?_);intro j J h hd hj eJ m st;by_cases cj:j<w
 rotate_left
 ·refine hA.ar Try.func99 x99.2 (zc ?_)
  refine br (J<W) (by rw[aB hA]) (fun q=>om) (fun _=>?_)<;>refine zc ?_;obtain rfl:j=w:=om
  exact hQ h _ _ m st
 obtain⟨d,rfl⟩:∃k,d=k+1:=⟨d-1,om⟩
 replace ih:=ih d rfl
 have x9:Ext h (aH h 13):=av hA _ _;have m9:=m.more x9;obtain⟨a,ha⟩:∃z,z=F r j:=⟨_,rfl⟩;obtain⟨b,vl⟩:∃z,z=F y j:=⟨_,rfl⟩;have r1:rd (aH h 13) (bs r) (place 0 J 1) 1 [.int .i64 a]:=aC hA (by
  have:=m9.el hr cj;rw[show CF F r j (fun x=>F r x-t*F y x) r j=a by unfold CF;rw[if_neg om,ha]]at this;rw[eJ];exact this)
 have r2:rd (aH h 13) (bs y) (place 0 J 1) 1 [.int .i64 b]:=aC hA (by
  have:=m9.el hy cj;rw[show CF F r j (fun x=>F r x-t*F y x) y j=b by unfold CF;rw[if_neg om,vl]]at this;rw[eJ];exact this)
 obtain⟨b1,b2,b3⟩:=hb j cj;rw[<-ha]at b1 b3;rw[<-vl]at b2 b3;obtain⟨u,hu⟩:∃z,z=t*b:=⟨_,rfl⟩;rw[<-hu]at b2 b3;have m1:arith .mul .i64 t b=u:=by rw[hu];exact jh hA om om
 obtain⟨g,hg⟩:∃z,z=a-u:=⟨_,rfl⟩;have m2:arith .sub .i64 a u=g:=by rw[hg];exact bR hA om om
 obtain⟨h2,w1,t2,wr2⟩:=m9.set hr cj g;have w1:wr (aH h 13) (bs r) (place 0 J 1) [.int .i64 g] h2:=wZ hA (by rw[eJ];exact w1);refine hA.ar Try.func99 x99.2 (zc ?_);refine br (J<W) (by rw[aB hA]) (fun _=>?_) (fun q=>om)<;>refine zc ?_
 (refine zq ?_;repeat ((first|rw[m1]|rw[m2]);refine zq ?_))
 rw[aF hA om om];refine ih (j+1) (J+1) h2 om om om (t2.congr (fun z x hz hx=>?_)) ((st.ext x9).wrote wr2);unfold tD CF;by_cases c:z=r/\x=j
 ·rw[if_pos c,if_pos ⟨c.1,om⟩,c.2,hg,hu,ha,vl]
 ·rw[if_neg c]
  by_cases c2:z=r/\x<j
  ·rw[if_pos c2,if_pos ⟨c2.1,om⟩]
  ·rw[if_neg c2,if_neg (fun q=>c ⟨q.1,by
    by_cases e:x=j
    ·exact e
    ·exact absurd ⟨q.1,om⟩ c2⟩)]
theorem CG{h0 h:af}(aq:h.low<=h.next){n w r y c1 c2:Nat}{bs:Nat->Nat}{F:Nat->Ext.aN}{t:Int}(hr:r<n)(hy:y<n)(hw:w<=1000)(hb:∀x,x<w->(F r x).natAbs<=9000000000000000000/\(t*F y x).natAbs<=9000000000000000000/\(F r x-t*F y x).natAbs<=9000000000000000000)
  (m:dK h0 h n w bs F) {Q:Value->af->Prop} (hQ:∀h',dK h0 h' n w bs (Ext.put F r (fun x=>F r x-t*F y x))->kp h h' (bs r)->Q (.tuple #[]) h') :
  call 99 [.slice (some ⟨bs r,0,none⟩) w c1,.slice (some ⟨bs y,0,none⟩) w c2,.int .i64 t] h Q:=by
 obtain⟨W,eW⟩:∃z:Int,z=w:=⟨_,rfl⟩;have e1:ofNat w=W:=by rw[eW];exact aR hA w
 refine hA.aQ Try.func99 x99.2 (hA.alike _ _ _ rfl) aq (zc ?_)
 (refine zq ?_;repeat ((first|rw[e1]);refine zq ?_))
 refine KF hA hr hy hw hb eW (fun h' kn T m2 st=>?_) w 0 0 h om om rfl (m.congr (fun z x hz hx=>by unfold CF;rw[if_neg om])) (.refl _ _);refine zc ?_;refine hQ h' (m2.congr (fun z x hz hx=>?_)) st;unfold CF Ext.put;by_cases c:z=r
 ·rw[if_pos ⟨c,hx⟩,if_pos c]
 ·rw[if_neg (fun q=>c q.1),if_neg c]
theorem Hm{h0 hs:af}(aq:h0.low<=h0.next){sb k n w rc r c:Nat}{ra:Option Addr}{bs:Nat->Nat}{F:Nat->Ext.aN}(hk:k<=10)(hr:r<n)(hw:w<=1000)(ec:c=Ext.aj w (F r))(hp:∀y,y<k->c<Ext.aj w (F y)->Ext.aj w (F y)<w/\0<F y (Ext.aj w (F y)))(fz:Ext.lP w F c k (F r)){C K:Int}(eC:C=c)(eK:K=k){cw:Nat}(qv:cw=au 1 w){Q:Exit->SS->Prop}
  (hQ:∀(h':af) (kn:Nat) (T:List (Nat×List Value)),oC h0 h' sb k n w ra rc bs (Ext.put F r (Ext.bK w F c k (F r)))->kp hs h' (bs r)->Q (.exit 0) ⟨[],kn,T,h'⟩) :
  ∀(d j:Nat) (J:Int) (h:af),k-j<=d->j<=k->J=j->oC h0 h sb k n w ra rc bs (Ext.put F r (Ext.bK w F c j (F r)))->kp hs h (bs r)->
   head 98 2 0 ⟨[(1,.slice (some ⟨bs r,0,none⟩) w cw),(4,.int .i64 C),(13,.slice ra k rc),(14,.int .i64 K),(15,.int .i64 J)],0,[],h⟩ Q:=by
 refine oR (fun d ih=>?_);intro j J h hd hj eJ m st;by_cases cj:j<k
 rotate_left
 ·refine hA.ar Try.func98 x98.2 (zc ?_)
  refine br (J<K) (by rw[aB hA]) (fun q=>om) (fun _=>?_)<;>refine zc ?_;obtain rfl:j=k:=om
  exact hQ h _ _ m st
 obtain⟨d,rfl⟩:∃k,d=k+1:=⟨d-1,om⟩
 replace ih:=ih d rfl
 obtain⟨b,rfl,hb,q1⟩:=m.head cj;rw[<-qv]at q1;have r1:rd h b (place 0 J 1) 1 [.slice (some ⟨bs j,0,none⟩) w cw]:=aC hA (by rw[eJ];exact q1);have B5:h.low<=h.next:=m.rows.ext.az aq;refine hA.ar Try.func98 x98.2 (zc ?_);refine br (J<K) (by rw[aB hA]) (fun _=>?_) (fun q=>om)<;>refine zc ?_;refine zq ?_;have hjn:j<n:=by have:=m.kn;omega
 refine rh hA B5 hw (fun x hx=>m.rows.el hjn hx) (fun L eL=>?_);refine⟨L,rfl,?_⟩;refine zq ?_;obtain⟨G,eG⟩:∃z,z=Ext.put F r (Ext.bK w F c j (F r)):=⟨_,rfl⟩;have VU:G r=Ext.bK w F c j (F r):=by rw[eG];exact Ext.gn _
 have XY:∀y,y≠r->G y=F y:=fun y hy=>by rw[eG];exact Ext.fO _ hy
 rw[<-eG]at m eL;refine br (C<L) (by rw[fg hA]) (fun cq=>?_) (fun cq=>?_)<;>refine zc ?_
 rotate_left
 ·rw[aF hA om om]
  refine ih (j+1) (J+1) h om om om ?_ st;have e:Ext.bK w F c (j+1) (F r)=Ext.bK w F c j (F r):=by
   show(if c<Ext.aj w (F j)then _ else _)=_;rw[if_neg];by_cases ej:j=r
   ·rw[ej,<-ec];omega
   ·rw[XY j ej]at eL;omega
  rw[e,<-eG];exact m
 have ZS:j≠r:=fun e=>by
  rw[e,VU,ec,Ext.Fg]at eL;omega
 rw[XY j ZS]at eL;obtain⟨l,el⟩:∃z,z=Ext.aj w (F j):=⟨_,rfl⟩;rw[<-el]at eL;obtain⟨p1,p2⟩:=hp j cj om;rw[<-el]at p1 p2;have x9:Ext h (aH h 12):=av hA _ _;have m9:=m.more x9;obtain⟨a,ha⟩:∃z,z=G r l:=⟨_,rfl⟩;obtain⟨b',vl⟩:∃z,z=F j l:=⟨_,rfl⟩;rw[<-vl]at p2;have r2:rd (aH h 12) (bs r) (place 0 L 1) 1 [.int .i64 a]:=aC hA (by rw[eL,ha];exact m9.rows.el hr p1);have r3:rd (aH h 12) (bs j) (place 0 L 1) 1 [.int .i64 b']:=aC hA (by
  rw[eL,vl,<-XY j ZS];exact m9.rows.el hjn p1)
 refine zq ?_;have ho:=fz j cj om;refine ri hA p2 (by have:=(ho l).1;rw[ha,VU];omega) (by have:=(ho l).1;rw[ha,VU];omega) (aA hA _) (fun q eq=>⟨q,rfl,?_⟩);refine zq ?_;obtain⟨X,hX⟩:∃z,z=aw (aH h 12) (fresh (aH h 12)):=⟨_,rfl⟩;have xX:Ext h X:=by rw[hX];exact cU hA B5 x9 (.refl _)
 rw[<-hX];have ZT:q=Ext.bK w F c j (F r) l / F j l:=by rw[eq,ha,VU,vl]
 refine CG hA (aA hA X) hr hjn hw (fun x hx=>?_) (m.rows.more (xX.trans (gK hA X))) (fun h' m' ZU=>?_)
 ·have:=ho x
  rw[VU,XY j ZS,ZT];rw[show Ext.bK w F c (j+1) (F r) x=Ext.bK w F c j (F r) x-Ext.bK w F c j (F r) l / F j l*F j x by
   show(if c<Ext.aj w (F j)then(fun x=>Ext.bK w F c j (F r) x-Ext.bK w F c j (F r) (Ext.aj w (F j)) / F j (Ext.aj w (F j))*F j x)else _) x=_;rw[if_pos om,el]]at this
  rw[<-el]at this;exact this
 refine zq ?_;rw[aF hA om om];have VW:=(st.ext (xX.trans (gK hA X))).trans ZU;have st3:kp hs (aw X h') (bs r):=by rw[eV hA];exact⟨VW.next,VW.get⟩
 have st4:kp h (aw X h') (bs r):=by
  have:=((kp.refl h (bs r)).ext (xX.trans (gK hA X))).trans ZU;rw[eV hA];exact⟨this.next,this.get⟩
 have m2:dK h0 (aw X h') n w bs (Ext.put G r (fun x=>G r x-q*G j x)):=by
  rw[eV hA];exact⟨Ext.Bq m'.ext (m.rows.ext.trans xX) aq,m'.row,m'.cJ,m'.lt,m'.inj⟩
 refine ih (j+1) (J+1) _ om om om ?_ st3;have e:Ext.put G r (fun x=>G r x-q*G j x)=Ext.put F r (Ext.bK w F c (j+1) (F r)):=by
  rw[eG,Ext.jg,<-eG,VU,XY j ZS,ZT]
  congr 1
  show _=(if c<Ext.aj w (F j)then(fun x=>Ext.bK w F c j (F r) x-Ext.bK w F c j (F r) (Ext.aj w (F j)) / F j (Ext.aj w (F j))*F j x)else _);rw[if_pos om,el]
 rw[<-e];exact m.put hr m2 st4
theorem tL{h0 h:af}(gq:h0.low<=h0.next){sb k n w rc r:Nat}{ra:Option Addr}{bs:Nat->Nat}{F:Nat->Ext.aN}(hk:k<=10)(hr:r<n)(hw:w<=1000)(hp:∀y,y<k->Ext.aj w (F r)<Ext.aj w (F y)->Ext.aj w (F y)<w/\0<F y (Ext.aj w (F y)))(fz:Ext.lP w F (Ext.aj w (F r)) k (F r))(m:oC h0 h sb k n w ra rc bs F){cw:Nat}(qv:cw=au 1 w){Q:Value->af->Prop}
  (hQ:∀h',oC h0 h' sb k n w ra rc bs (Ext.put F r (Ext.bK w F (Ext.aj w (F r)) k (F r)))->kp h h' (bs r)->Q (.tuple #[]) h') :
  call 98 [.pointer (some ⟨sb,0,none⟩),.slice (some ⟨bs r,0,none⟩) w cw] h Q:=by
 obtain⟨K,eK⟩:∃z:Int,z=k:=⟨_,rfl⟩;have e1:ofNat k=K:=by rw[eK];exact aR hA k
 have aq:h.low<=h.next:=m.rows.ext.az gq;have r1:rd h sb (bZ 0 0) 1 [.slice ra k rc]:=by rw[cN hA];exact iQ hA (m.own.aL (o:=0) (n:=1) (Nat.le_refl _))
 refine hA.aQ Try.func98 x98.2 (hA.alike _ _ _ rfl) aq (zc ?_);refine zq ?_;refine rh hA aq hw (fun x hx=>m.rows.el hr hx) (fun L eL=>?_);refine⟨L,rfl,?_⟩
 (refine zq ?_;repeat ((first|rw[e1]);refine zq ?_))
 refine Hm hA (sb:=sb) gq hk hr hw rfl hp fz eL eK qv (fun h' kn T m2 st=>?_) k 0 0 h om om rfl ?_ (.refl _ _)
 ·refine zc ?_
  exact hQ h' m2 st
 ·have:Ext.put F r (Ext.bK w F (Ext.aj w (F r)) 0 (F r))=F:=Ext.jf
  rw[this];exact m
