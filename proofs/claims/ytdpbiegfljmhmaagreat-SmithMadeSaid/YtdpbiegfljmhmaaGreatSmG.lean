import Derived.Test.YtdpbiegfljmhmaaGreatSimD
import Derived.Test.YtdpbiegfljmhmaaGreatSymB
set_option linter.unusedSimpArgs false
set_option linter.unusedVariables false
namespace Go.Proofs.YtdpbiegfljmhmaaGreat.Ext
def bG(w:Nat)(F:Nat->aQ)(c:Nat):Nat->aQ->aQ
 |0,v=>v
 |y+1,v=>if c<aj w (F y)then(fun j=>bG w F c y v j-bG w F c y v (aj w (F y)) / F y (aj w (F y))*F y j)else bG w F c y v
theorem F2{a L R:Int}(hL:0<L)(h:a.natAbs<=(R*L).natAbs)(hR:0<=R):(a / L).natAbs<=R.natAbs:=by
 have h1:-(R*L)<=a/\a<=R*L:=by
  have:0<=R*L:=Int.mul_nonneg hR (Int.le_of_lt hL);omega
 have h2:a / L<=R:=Int.ediv_le_of_le_mul hL om;have h3:-R<=a / L:=Int.le_ediv_of_mul_le hL (by rw[Int.neg_mul];omega);omega
theorem iA{a b A B:Int}(ha:a.natAbs<=A.natAbs)(hb:b.natAbs<=B.natAbs)(hA:0<=A)(hB:0<=B):(a*b).natAbs<=(A*B).natAbs:=by
 rw[Int.natAbs_mul,Int.natAbs_mul];exact Nat.mul_le_mul ha hb
structure Old(w k a:Nat)(F:Nat->aQ)(E:Int):Prop where
 le:∀z,a<=z->z<k->∀j,(F z j).natAbs<=E.natAbs
 red:∀y z,a<=y->y<z->z<k->0<=F y (aj w (F z))/\F y (aj w (F z))<F z (aj w (F z))
theorem Old.LD{w k a a':Nat}{F:Nat->aQ}{E:Int}(h:Old w k a F E)(ha:a<=a'):Old w k a' F E:=
 ⟨fun z hz hk=>h.le z om hk,fun y z hy hz hk=>h.red y z om hz hk⟩
structure YR(w k a y:Nat)(F:Nat->aQ)(E N Q:Int)(v u:aQ):Prop where
 red:∀z,a<=z->z<y->0<=u (aj w (F z))/\u (aj w (F z))<F z (aj w (F z))
 lead:∀z,y<=z->a<=z->z<k->(u (aj w (F z))).natAbs<=(Q*2 ^ (y-a)*F z (aj w (F z))).natAbs
 le:∀j,(u j).natAbs<=(N+(Q*2 ^ (y-a)-Q)*E).natAbs
 cJ:∀j,(∀z,a<=z->z<k->j<aj w (F z))->u j=v j
theorem rP{w k a c:Nat}{F:Nat->aQ}{E N Q:Int}{v:aQ}(hs:A8 w k F)(hE:0<=E)(hN:0<=N)(hQ:0<=Q)(ho:Old w k a F E)(ha:∀z,z<a->z<k->aj w (F z)<=c)(hc:∀z,a<=z->z<k->c<aj w (F z))
  (hv:∀j,(v j).natAbs<=N.natAbs) (hl:∀z,a<=z->z<k->(v (aj w (F z))).natAbs<=(Q*F z (aj w (F z))).natAbs):∀y,y<=k->YR w k a y F E N Q v (bG w F c y v)
 |0,_=>by
  refine⟨fun z h1 h2=>om,fun z _ h1 h2=>?_,fun j=>?_,fun j _=>rfl⟩
  ·rw[show 0-a=0 by omega,Int.pow_zero,Int.mul_one];exact hl z h1 h2
  ·rw[show 0-a=0 by omega,Int.pow_zero,Int.mul_one,show N+(Q-Q)*E=N by rw[Int.sub_self];omega];exact hv j
 |y+1,hy=>by
  have ih:=rP hs hE hN hQ ho ha hc hv hl y om;by_cases cy:a<=y
  ·have TE:=hc y cy om
   have e:bG w F c (y+1) v=fun j=>bG w F c y v j-bG w F c y v (aj w (F y)) / F y (aj w (F y))*F y j:=by
    show(if c<aj w (F y)then _ else _)=_;rw[if_pos TE]
   rw[e];generalize bG w F c y v=u at *;have hL:=hs.pos y om;have hp:(2:Int) ^ (y+1-a)=2 ^ (y-a)*2:=by rw[show y+1-a=(y-a)+1 by omega,Int.pow_succ]
   obtain⟨R,eR⟩:∃R,R=Q*2 ^ (y-a):=⟨_,rfl⟩;have hR:0<=R:=by rw[eR];exact Int.mul_nonneg hQ (Int.le_of_lt (Int.pow_pos om))
   have hRQ:Q<=R:=by
    rw[eR];have h1:(1:Int)<=2 ^ (y-a):=Int.pow_pos om;have:=Int.mul_le_mul_of_nonneg_left h1 hQ;omega
   have TF:Q*2 ^ (y+1-a)=2*R:=by rw[hp,eR,<-Int.mul_assoc,Int.mul_comm]
   have hle:=ih.le;have LF:=ih.lead;rw[<-eR]at hle LF;have ht:=F2 hL (LF y (Nat.le_refl _) cy om) hR;generalize hT:u (aj w (F y)) / F y (aj w (F y))=t at ht;refine⟨fun z h1 h2=>?_,fun z h0 h1 h2=>?_,fun j=>?_,fun j hj=>?_⟩
   ·by_cases ez:z=y
    ·subst ez
     show 0<=u (aj w (F z))-t*F z (aj w (F z))/\u (aj w (F z))-t*F z (aj w (F z))<F z (aj w (F z));rw[<-hT];have q1:=Int.emod_nonneg (u (aj w (F z))) (show F z (aj w (F z))≠0 by omega);have q2:=Int.emod_lt_of_pos (u (aj w (F z))) hL;have q3:=Int.emod_add_mul_ediv (u (aj w (F z))) (F z (aj w (F z)));rw[Int.mul_comm]at q3;omega
    ·show 0<=u (aj w (F z))-t*F y (aj w (F z))/\u (aj w (F z))-t*F y (aj w (F z))<F z (aj w (F z))
     rw[bz (w:=w) (v:=F y) (hs.inc z y om om),Int.mul_zero,Int.sub_zero];exact ih.red z h1 om
   ·show(u (aj w (F z))-t*F y (aj w (F z))).natAbs<=_
    rw[TF];have q1:=LF z om h1 h2;have q2:=ho.red y z cy om h2;have q3:(t*F y (aj w (F z))).natAbs<=(R*F z (aj w (F z))).natAbs:=iA ht om hR om;have q4:0<=R*F z (aj w (F z)):=Int.mul_nonneg hR om;rw[Int.mul_assoc];omega
   ·show(u j-t*F y j).natAbs<=_
    rw[TF];have q1:=hle j;have q3:(t*F y j).natAbs<=(R*E).natAbs:=iA ht (ho.le y cy om j) hR hE;have q4:0<=R*E:=Int.mul_nonneg hR hE;have q5:0<=(R-Q)*E:=Int.mul_nonneg om hE;rw[show(2*R-Q)*E=(R-Q)*E+R*E by rw[<-Int.add_mul];congr 1;omega];omega
   ·show u j-t*F y j=v j
    rw[bz (w:=w) (v:=F y) (hj y cy om),Int.mul_zero,Int.sub_zero];exact ih.cJ j hj
  ·have e:bG w F c (y+1) v=bG w F c y v:=by
    show(if c<aj w (F y)then _ else _)=_;rw[if_neg (by have:=ha y om om;omega)]
   rw[e];have e0:y+1-a=y-a:=om
   exact⟨fun z h1 h2=>om,fun z h0 h1 h2=>by rw[e0];exact ih.lead z om h1 h2,fun j=>by rw[e0];exact ih.le j,ih.cJ⟩
theorem LG{w k a c:Nat}{F:Nat->aQ}{v:aQ}(hs:A8 w k F)(ha:∀z,z<a->z<k->aj w (F z)<=c)(hr:∀z,a<=z->z<k->0<=v (aj w (F z))/\v (aj w (F z))<F z (aj w (F z))):∀y,y<=k->bG w F c y v=v
 |0,_=>rfl
 |y+1,hy=>by
  have ih:=LG hs ha hr y om;show(if c<aj w (F y)then(fun j=>bG w F c y v j-bG w F c y v (aj w (F y)) / F y (aj w (F y))*F y j)else bG w F c y v)=v;rw[ih];split
  ·rename_i q
   have cy:a<=y:=by rcases Nat.lt_or_ge y a with r|r;have:=ha y r om;omega;exact r
   obtain⟨h1,h2⟩:=hr y cy om;rw[Int.ediv_eq_zero_of_lt h1 h2]
   funext j;omega
  ·rfl
theorem F4{w k:Nat}{F:Nat->aQ}{c r:Nat}{v:aQ}(hr:r<k):∀y,y<=k->(∀z,z<y->c<aj w (F z)->z≠r)->kM w k (put F r (bG w F c y v)) (put F r v)
 |0,_,_=>.refl _ _ _
 |y+1,hy,dX=>by
  have ih:=F4 (c:=c) (v:=v) hr y om (fun z hz=>dX z om);by_cases q:c<aj w (F y)
  ·have e:bG w F c (y+1) v=fun j=>bG w F c y v j-bG w F c y v (aj w (F y)) / F y (aj w (F y))*F y j:=by
    show(if c<aj w (F y)then _ else _)=_;rw[if_pos q]
   have ny:=dX y om q;have h:=kM.sub (w:=w) (F:=put F r (bG w F c y v)) (r:=r) (y:=y) hr om (fun e=>ny e.symm) (bG w F c y v (aj w (F y)) / F y (aj w (F y)));rw[jk,show put F r (bG w F c y v) r=bG w F c y v by unfold put;rw[if_pos rfl],show put F r (bG w F c y v) y=F y by unfold put;rw[if_neg ny]]at h;rw[e];exact h.trans ih
  ·have e:bG w F c (y+1) v=bG w F c y v:=by
    show(if c<aj w (F y)then _ else _)=_;rw[if_neg q]
   rw[e];exact ih
def lJ(w:Nat)(F:Nat->aQ)(c k:Nat)(v:aQ):Prop:=∀y,y<k->c<aj w (F y)->∀j,(bG w F c y v j).natAbs<=9000000000000000000/\(bG w F c y v (aj w (F y)) / F y (aj w (F y))*F y j).natAbs<=9000000000000000000/\(bG w F c (y+1) v j).natAbs<=9000000000000000000
theorem pP{w k a c:Nat}{F:Nat->aQ}{E N Q:Int}{v:aQ}(hs:A8 w k F)(hE:0<=E)(hN:0<=N)(hQ:0<=Q)(ho:Old w k a F E)(ha:∀z,z<a->z<k->aj w (F z)<=c)(hc:∀z,a<=z->z<k->c<aj w (F z))
  (hv:∀j,(v j).natAbs<=N.natAbs) (hl:∀z,a<=z->z<k->(v (aj w (F z))).natAbs<=(Q*F z (aj w (F z))).natAbs) (hka:k-a<=3) (hb:N+7*(Q*E)<=9000000000000000000):lJ w F c k v/\∀j,(bG w F c k v j).natAbs<=(N+7*(Q*E)).natAbs:=by
 have all:=rP hs hE hN hQ ho ha hc hv hl;have hQE:0<=Q*E:=Int.mul_nonneg hQ hE;have pw:∀y,y<=k->Q<=Q*2 ^ (y-a)/\Q*2 ^ (y-a)<=8*Q:=fun y hy=>by
  have:y-a=0\/y-a=1\/y-a=2\/y-a=3:=om
  rcases this with q|q|q|q<;>rw[q]
  ·rw[Int.pow_zero];omega
  ·rw[show(2:Int) ^ 1=2 from rfl];omega
  ·rw[show(2:Int) ^ 2=4 from rfl];omega
  ·rw[show(2:Int) ^ 3=8 from rfl];omega
 have le:∀y,y<=k->∀j,(bG w F c y v j).natAbs<=(N+7*(Q*E)).natAbs:=fun y hy j=>by
  have h1:=(all y hy).le j;obtain⟨h2,h3⟩:=pw y hy;have h4:=Int.mul_le_mul_of_nonneg_right (show Q*2 ^ (y-a)-Q<=7*Q by omega) hE;have h5:=Int.mul_nonneg (show 0<=Q*2 ^ (y-a)-Q by omega) hE;rw[Int.mul_assoc]at h4;omega
 refine⟨fun y hy TE j=>?_,le k (Nat.le_refl _)⟩;have h1:=le y om j;have h2:=le (y+1) om j;refine⟨om,?_,om⟩;have cy:a<=y:=by rcases Nat.lt_or_ge y a with r|r;have:=ha y r hy;omega;exact r
 have L:=hs.pos y hy;have h6:=(all y om).lead y (Nat.le_refl _) cy hy;have h7:=F2 L h6 (by obtain⟨h2,h3⟩:=pw y om;omega);have h8:=(pw y om).1;have h9:Q*2 ^ (y-a)<=4*Q:=by
  have:y-a=0\/y-a=1\/y-a=2:=om
  rcases this with q|q|q<;>rw[q]
  ·rw[Int.pow_zero];omega
  ·rw[show(2:Int) ^ 1=2 from rfl];omega
  ·rw[show(2:Int) ^ 2=4 from rfl];omega
 have BA:=iA (A:=4*Q) (B:=E) (show(bG w F c y v (aj w (F y)) / F y (aj w (F y))).natAbs<=_ by omega) (ho.le y cy hy j) om hE;rw[Int.mul_assoc]at BA;omega
end Go.Proofs.YtdpbiegfljmhmaaGreat.Ext
namespace Go.Proofs.YtdpbiegfljmhmaaGreat.Ext
def cb(a:Nat):Int:=3673320192*7 ^ a
theorem vZ(a:Nat):cb (a+1)=7*cb a:=by unfold cb;rw[Int.pow_succ];omega
theorem LH(a:Nat):0<cb a:=by unfold cb;have:(0:Int)<7 ^ a:=Int.pow_pos om;omega
theorem ta{a b:Nat}(h:a<=b):cb a<=cb b:=by
 obtain⟨d,rfl⟩:∃d,b=a+d:=⟨b-a,om⟩;clear h
 induction d with
 |zero=>exact Int.le_refl _
 |succ d ih=>have:=LH (a+d);rw[show a+(d+1)=a+d+1 by omega,vZ];omega
theorem O0:cb 3=1259948825856:=by decide
theorem Am{a:Nat}(h:a<=3):cb a<=1259948825856:=by rw[<-O0];exact ta h
def Pt(f:Nat->Int):Nat->Nat->Int
 |_,0=>1
 |a,n+1=>f a*Pt f (a+1) n
theorem rQ{f:Nat->Int}:∀(n a:Nat),(∀i,a<=i->i<a+n->0<f i)->0<Pt f a n
 |0,_,_=>by show(0:Int)<1;omega
 |n+1,a,h=>Int.mul_pos (h a om om) (rQ n (a+1) (fun i h1 h2=>h i om om))
theorem yp{f g:Nat->Int}:∀(n a:Nat),(∀i,a<=i->i<a+n->f i=g i)->Pt f a n=Pt g a n
 |0,_,_=>rfl
 |n+1,a,h=>by show f a*Pt f (a+1) n=g a*Pt g (a+1) n;rw[h a om om,yp n (a+1) (fun i h1 h2=>h i om om)]
theorem mF{x p:Int}(hx:0<=x)(hp:0<p):x<=x*p:=by
 have:=Int.mul_le_mul_of_nonneg_left (show(1:Int)<=p by omega) hx;omega
theorem BB{f:Nat->Int}{k:Nat}(h:∀i,i<k->0<f i):∀(d a:Nat),a+d<=k->Pt f (a+d) (k-(a+d))<=Pt f a (k-a)
 |0,a,_=>Int.le_refl _
 |d+1,a,hk=>by
  have ih:=BB h d (a+1) om;rw[show a+(d+1)=a+1+d by omega];refine Int.le_trans ih ?_;rw[show k-a=(k-(a+1))+1 by omega];show _<=f a*Pt f (a+1) (k-(a+1));have p:=rQ (f:=f) (k-(a+1)) (a+1) (fun i h1 h2=>h i om);rw[Int.mul_comm];exact mF (Int.le_of_lt p) (h a om)
theorem LI(f:Nat->Int):∀(n a:Nat),Pt f a (n+1)=Pt f a n*f (a+n)
 |0,a=>by show f a*1=1*f (a+0);rw[Nat.add_zero];omega
 |n+1,a=>by
  show f a*Pt f (a+1) (n+1)=f a*Pt f (a+1) n*f (a+(n+1));rw[LI f n (a+1),show a+1+n=a+(n+1) by omega,Int.mul_assoc]
theorem DF(f:Nat->Int):∀n,Pt f 0 n=fY f n
 |0=>rfl
 |n+1=>by rw[LI,DF f n,Nat.zero_add];rfl
def yq(w:Nat)(F:Nat->aQ):Nat->Int:=fun z=>F z (aj w (F z))
theorem A8.parts{w k:Nat}{F:Nat->aQ}(h:A8 w k F)(c:Nat):∃a,a<=k/\(∀y,y<a->aj w (F y)<c)/\∀z,a<=z->z<k->c<=aj w (F z):=by
 obtain⟨h1,h2,h3⟩:=h
 induction k with
 |zero=>exact⟨0,Nat.le_refl _,fun y hy=>om,fun z _ hz=>om⟩
 |succ k ih=>
  obtain⟨a,q1,q2,q3⟩:=ih (fun i hi=>h1 i om) (fun i hi=>h2 i om) (fun i j hi hj=>h3 i j hi om);by_cases e:aj w (F k)<c
  ·refine⟨k+1,Nat.le_refl _,fun y hy=>?_,fun z hz hk=>om⟩
   by_cases ey:y=k
   ·rw[ey];exact e
   ·have:=h3 y k om om;omega
  ·refine⟨a,om,q2,fun z hz hk=>?_⟩
   by_cases ez:z=k
   ·rw[ez];omega
   ·exact q3 z hz om
structure iX(w k:Nat)(F:Nat->aQ)(v:aQ)(F0:Nat->aQ):Prop where
 gv:A8 w k F
 Ck:kM w (k+1) (put F k v) F0
 Ja:∀y,y<k->∀j,(F y j).natAbs<=(cb 3).natAbs
 k3:k<=3
 nz:∃d J I,(∀i,i<d->J i<w)/\prod d (rv (k+1) F0 J) (k+1) I≠0
theorem iX.lead{w k:Nat}{F:Nat->aQ}{v:aQ}{F0:Nat->aQ}(b:iX w k F v F0):aj w v<w:=by
 obtain⟨d,J,I,h1,h2⟩:=b.nz;have:=b.Ck.ne h1 h2 (r:=k) om;rw[show put F k v k=v by unfold put;rw[if_pos rfl]]at this;exact this
structure Jb(w k a:Nat)(F:Nat->aQ)(v:aQ)(N Q:Int):Prop where
 ak:a<=k
 lo:∀y,y<a->aj w (F y)<aj w v
 hi:∀z,a<=z->z<k->aj w v<=aj w (F z)
 cJ:Old w k a F 13122
 n0:0<=N
 q1:1<=Q
 le:∀j,(v j).natAbs<=N.natAbs
 ld:∀z,a<=z->z<k->(v (aj w (F z))).natAbs<=(Q*F z (aj w (F z))).natAbs
 LJ:(N+7*(Q*13122))*Pt (yq w F) a (k-a)<=cb a
structure LK(w k a:Nat)(F:Nat->aQ)(v:aQ)(n m:Int):Prop where
 ak:a<k
 lo:∀y,y<a->aj w (F y)<aj w v
 eq:aj w (F a)=aj w v
 cJ:Old w k (a+1) F 13122
 xy:F a (aj w v)<v (aj w v)
 rv:∀z,a<z->z<k->0<=v (aj w (F z))/\v (aj w (F z))<F z (aj w (F z))
 rf:∀z,a<z->z<k->0<=F a (aj w (F z))/\F a (aj w (F z))<F z (aj w (F z))
 vn:∀j,((v j).natAbs:Int)+91854<=n
 fm:∀j,((F a j).natAbs:Int)+91854<=m
 LJ:(n*F a (aj w v)+m*v (aj w v))*Pt (yq w F) (a+1) (k-(a+1))<=7*cb a
theorem gf{F:Nat->aQ}{k:Nat}(v:aQ):put F k v k=v:=by unfold put;rw[if_pos rfl]
theorem fN{F:Nat->aQ}{k i:Nat}(v:aQ)(h:i≠k):put F k v i=F i:=by unfold put;rw[if_neg h]
theorem iX.low{w k:Nat}{F:Nat->aQ}{v:aQ}{F0:Nat->aQ}(b:iX w k F v F0)(c:Nat):iX w k F (bG w F c k v) F0:=
 ⟨b.gv,by
  have h:=F4 (w:=w) (k:=k+1) (F:=F) (c:=c) (v:=v) (r:=k) om k om (fun z hz _=>om);exact h.trans b.Ck,b.Ja,b.k3,b.nz⟩
theorem iX.take{w k a:Nat}{F:Nat->aQ}{v:aQ}{F0:Nat->aQ}(b:iX w k F v F0)(ha:a<k)(q:Int):iX w k F (fun j=>v j-q*F a j) F0:=
 ⟨b.gv,by
  have h:=kM.sub (w:=w) (k:=k+1) (F:=put F k v) (r:=k) (y:=a) om om om q;rw[jk,gf,fN v om]at h;exact h.trans b.Ck,b.Ja,b.k3,b.nz⟩
theorem Hr{w k a:Nat}{F:Nat->aQ}{v:aQ}{F0:Nat->aQ}{N Q:Int}(b:iX w k F v F0)(ha:a<k)(ho:Old w k (a+1) F 13122)(hz:∀j,j<=aj w (F a)->v j=0)(hN:0<=N)(hQ:1<=Q)(le:∀j,(v j).natAbs<=N.natAbs)
  (ld:∀z,a<z->z<k->(v (aj w (F z))).natAbs<=(Q*F z (aj w (F z))).natAbs) (LJ:(N+7*(Q*13122))*Pt (yq w F) (a+1) (k-(a+1))<=7*cb a):aj w (F a)<aj w v/\∃a',Jb w k a' F v N Q:=by
 have hc:aj w (F a)<aj w v:=by
  rcases Nat.lt_or_ge (aj w (F a)) (aj w v)with q|q
  ·exact q
  ·exact absurd (hz _ q) (lD b.lead)
 refine⟨hc,?_⟩;obtain⟨a',p1,p2,p3⟩:=b.gv.parts (aj w v);have haa:a+1<=a':=by
  rcases Nat.lt_or_ge a a' with q|q
  ·exact q
  ·have:=p3 a q ha;omega
 have hL:∀i,i<k->0<yq w F i:=fun i hi=>b.gv.pos i hi
 obtain⟨d,rfl⟩:∃d,a'=a+1+d:=⟨a'-(a+1),om⟩;have h1:=BB hL d (a+1) p1;have h2:0<=N+7*(Q*13122):=om
 have h3:=Int.mul_le_mul_of_nonneg_left h1 h2;have h4:=ta (a:=a+1) (b:=a+1+d) om;rw[vZ]at h4;exact⟨a+1+d,p1,p2,p3,ho.LD om,hN,hQ,le,fun z h1 h2=>ld z om h2,om⟩
theorem LM{w k a:Nat}{F:Nat->aQ}{u:aQ}{F0:Nat->aQ}{n m:Int}(b:iX w k F u F0)(ha:a<k)(ho:Old w k (a+1) F 13122)(hz:∀j,j<aj w (F a)->u j=0)(hx:0<u (aj w (F a))/\u (aj w (F a))<F a (aj w (F a)))
  (ru:∀z,a<z->z<k->0<=u (aj w (F z))/\u (aj w (F z))<F z (aj w (F z))) (rf:∀z,a<z->z<k->0<=F a (aj w (F z))/\F a (aj w (F z))<F z (aj w (F z)))
  (un:∀j,((u j).natAbs:Int)+91854<=m) (fn:∀j,((F a j).natAbs:Int)+91854<=n) (hm:m<=cb 3)
  (LJ:(n*u (aj w (F a))+m*F a (aj w (F a)))*Pt (yq w F) (a+1) (k-(a+1))<=7*cb a):aj w u=aj w (F a)/\iX w k (put F a u) (F a) F0/\LK w k a (put F a u) (F a) n m:=by
 have hlw:=b.gv.lt a ha;have hl:aj w u=aj w (F a):=iz om hz (fun _=>om);have JZ:=gf (F:=F) (k:=a) u;have EG:∀i,i≠a->put F a u i=F i:=fun i hi=>fN u hi
 have hle:∀i,aj w (put F a u i)=aj w (F i):=fun i=>by
  by_cases e:i=a
  ·rw[e,JZ,hl]
  ·rw[EG i e]
 have tU:A8 w k (put F a u):=by
  refine⟨fun i hi=>by rw[hle];exact b.gv.lt i hi,fun i hi=>?_,fun i j h1 h2=>by rw[hle,hle];exact b.gv.inc i j h1 h2⟩;rw[hle];by_cases e:i=a
  ·rw[e,JZ];exact hx.1
  ·rw[EG i e];exact b.gv.pos i hi
 have hpt:Pt (yq w (put F a u)) (a+1) (k-(a+1))=Pt (yq w F) (a+1) (k-(a+1)):=yp _ _ (fun i h1 h2=>by unfold yq;rw[EG i om]);refine⟨hl,⟨tU,?_,fun y hy j=>?_,b.k3,b.nz⟩,⟨ha,fun y hy=>?_,by rw[JZ];exact hl,⟨fun z h1 h2 j=>?_,fun y z h1 h2 h3=>?_⟩,?_,fun z h1 h2=>?_,fun z h1 h2=>?_,fn,fun j=>by rw[JZ];exact un j,?_⟩⟩
 ·have h:=kM.swap (w:=w) (k:=k+1) (F:=put F k u) (a:=a) (b:=k) om om
  have e:NQ (put F k u) a k=put (put F a u) k (F a):=by
   unfold NQ;rw[gf,fN u om,nJ (show k≠a by omega),jk]
  rw[e]at h;exact h.trans b.Ck
 ·by_cases e:y=a
  ·rw[e,JZ];have:=un j;have:=LH 3;omega
  ·rw[EG y e];exact b.Ja y hy j
 ·rw[EG y om];exact b.gv.inc y a hy ha
 ·rw[EG z om];exact ho.le z h1 h2 j
 ·rw[EG y om,EG z om];exact ho.red y z h1 h2 h3
 ·rw[JZ];exact hx.2
 ·rw[EG z om];exact rf z h1 h2
 ·rw[JZ,EG z om];exact ru z h1 h2
 ·rw[JZ,hpt];exact LJ
def Next(w k:Nat)(F0 F:Nat->aQ)(a:Nat)(u2:aQ):Prop:=
 (u2 (aj w (F a))=0/\aj w (F a)<aj w u2/\iX w k F u2 F0/\∃a' N Q,Jb w k a' F u2 N Q) \/
 (u2 (aj w (F a))≠0/\aj w u2=aj w (F a)/\lJ w F (aj w (F a)) k u2/\aj w (bG w F (aj w (F a)) k u2)=aj w (F a)/\bG w F (aj w (F a)) k u2 (aj w (F a))<F a (aj w (F a))/\iX w k (put F a (bG w F (aj w (F a)) k u2)) (F a) F0/\∃n m,LK w k a (put F a (bG w F (aj w (F a)) k u2)) (F a) n m)
theorem vg{x y:Int}(hy:0<y):0<=x-x / y*y/\x-x / y*y<y:=by
 have q1:=Int.emod_nonneg x (show y≠0 by omega);have q2:=Int.emod_lt_of_pos x hy;have q3:=Int.emod_add_mul_ediv x y;rw[Int.mul_comm]at q3;omega
end Go.Proofs.YtdpbiegfljmhmaaGreat.Ext
namespace Go.Proofs.YtdpbiegfljmhmaaGreat.Ext
theorem Jb.top{w k a:Nat}{F:Nat->aQ}{v:aQ}{F0:Nat->aQ}{N Q:Int}(b:iX w k F v F0)(h:Jb w k a F v N Q):N+7*(Q*13122)<=cb a:=by
 have p:=rQ (f:=yq w F) (k-a) a (fun i h1 h2=>b.gv.pos i om);have:=h.LJ;have h2:=h.n0;have h3:=h.q1;have:=mF (show 0<=N+7*(Q*13122) by omega) p;omega
theorem Jb.low{w k a:Nat}{F:Nat->aQ}{v:aQ}{F0:Nat->aQ}{N Q:Int}(b:iX w k F v F0)(h:Jb w k a F v N Q) :
  lJ w F (aj w v) k v/\(∀j,(bG w F (aj w v) k v j).natAbs<=(N+7*(Q*13122)).natAbs)/\(∀j,j<=aj w v->bG w F (aj w v) k v j=v j)/\∀z,a<=z->z<k->aj w v<aj w (F z)->0<=bG w F (aj w v) k v (aj w (F z))/\bG w F (aj w v) k v (aj w (F z))<F z (aj w (F z)):=by
 have Vd:=h.top b;have hn:=h.n0;have hq:=h.q1;have hk:=b.k3;have key:∀a1,a<=a1->a1<=a+1->a1<=k->(∀z,z<a1->z<k->aj w (F z)<=aj w v)->(∀z,a1<=z->z<k->aj w v<aj w (F z))->lJ w F (aj w v) k v/\(∀j,(bG w F (aj w v) k v j).natAbs<=(N+7*(Q*13122)).natAbs)/\(∀j,j<=aj w v->bG w F (aj w v) k v j=v j)/\∀z,a1<=z->z<k->0<=bG w F (aj w v) k v (aj w (F z))/\bG w F (aj w v) k v (aj w (F z))<F z (aj w (F z)):=by
  intro a1 h1 h2 h3 lo hi;have ho:=h.cJ.LD h1;have W5:∀z,a1<=z->z<k->(v (aj w (F z))).natAbs<=(Q*F z (aj w (F z))).natAbs:=fun z q1 q2=>h.ld z om q2
  obtain⟨s1,s2⟩:=pP b.gv (E:=13122) om hn om ho lo hi h.le W5 om (by have:=Am (a:=a) (by have:=h.ak;omega);omega);have s3:=rP b.gv (E:=13122) om hn om ho lo hi h.le W5 k (Nat.le_refl _);exact⟨s1,s2,fun j hj=>s3.cJ j (fun z q1 q2=>by have:=hi z q1 q2;omega),s3.red⟩
 by_cases c:a<k/\aj w (F a)=aj w v
 ·obtain⟨r1,r2,r3,r4⟩:=key (a+1) om om om (fun z q1 q2=>by
   by_cases e:z=a
   ·rw[e];omega
   ·have:=h.lo z om;omega) (fun z q1 q2=>by have:=b.gv.inc a z om q2;omega)
  exact⟨r1,r2,r3,fun z q1 q2 q3=>r4 z (by
   rcases Nat.lt_or_ge a z with q|q
   ·omega
   ·have:z=a:=om
    subst this;omega) q2⟩
 ·obtain⟨r1,r2,r3,r4⟩:=key a om om h.ak (fun z q1 q2=>by have:=h.lo z q1;omega) (fun z q1 q2=>by
   have h1:=h.hi z q1 q2;by_cases e:aj w (F z)=aj w v
   ·exfalso
    by_cases ez:z=a
    ·subst ez;exact c ⟨q2,e⟩
    ·have:=b.gv.inc a z om q2;have:=h.hi a om om;omega
   ·omega)
  exact⟨r1,r2,r3,fun z q1 q2 _=>r4 z q1 q2⟩
theorem O4{w k a:Nat}{F:Nat->aQ}{v:aQ}{F0:Nat->aQ}{N Q:Int}(b:iX w k F v F0)(h:Jb w k a F v N Q)(ha:a<k)(he:aj w (F a)=aj w v){u:aQ}(eu:u=bG w F (aj w v) k v){q:Int}(eq:q=u (aj w v) / F a (aj w v)) :
  (∀j,(q*F a j).natAbs<=9000000000000000000/\(u j-q*F a j).natAbs<=9000000000000000000)/\Next w k F0 F a (fun j=>u j-q*F a j):=by
 obtain⟨l1,l2,l3,l4⟩:=h.low b;have bu:=b.low (aj w v);have Vd:=h.top b;have hn:=h.n0;have hq:=h.q1;have hk:=b.k3;have hcb:=Am (a:=a) om;rw[<-eu]at l2 l3 l4 bu;rw[<-he]at l3 l4 eq;have hL:=b.gv.pos a ha;have luc:u (aj w (F a))=v (aj w (F a)):=l3 _ (Nat.le_refl _);have hqQ:q.natAbs<=Q.natAbs:=by
  rw[eq,luc];exact F2 hL (h.ld a om ha) om
 obtain⟨QE,TG⟩:∃z,z=Q*13122:=⟨_,rfl⟩;rw[<-TG]at Vd l2;have hQE:13122<=QE:=om
 have TH:∀j,(q*F a j).natAbs<=QE.natAbs:=fun j=>by rw[TG];exact iA hqQ (h.cJ.le a (Nat.le_refl _) ha j) om om
 refine⟨fun j=>⟨by have:=TH j;omega,by have:=TH j;have:=l2 j;omega⟩,?_⟩;have b2:=bu.take ha q;have KB:∀j,(u j-q*F a j).natAbs<=(N+8*QE).natAbs:=fun j=>by have:=TH j;have:=l2 j;omega
 have za:∀j,j<aj w (F a)->u j-q*F a j=0:=fun j hj=>by
  rw[l3 j om,bz (w:=w) (v:=v) om,bz hj];omega
 have zD:∀z,a<z->z<k->((u (aj w (F z))-q*F a (aj w (F z))).natAbs<=((Q+1)*F z (aj w (F z))).natAbs):=fun z z1 z2=>by
  obtain⟨r1,r2⟩:=l4 z om z2 (b.gv.inc a z z1 z2);obtain⟨r3,r4⟩:=h.cJ.red a z (Nat.le_refl _) z1 z2;have r5:=iA hqQ (show(F a (aj w (F z))).natAbs<=(F z (aj w (F z))).natAbs by omega) om om;have r6:0<=Q*F z (aj w (F z)):=Int.mul_nonneg om om;rw[Int.add_mul,Int.one_mul];omega
 have ho:=h.cJ.LD (a':=a+1) om;obtain⟨x1,x2⟩:=vg (x:=u (aj w (F a))) hL;rw[<-eq]at x1 x2;have zE:=h.LJ;rw[<-TG,show k-a=(k-(a+1))+1 by omega]at zE;have zE:(N+7*QE)*(F a (aj w (F a))*Pt (yq w F) (a+1) (k-(a+1)))<=cb a:=zE;have hP:=rQ (f:=yq w F) (k-(a+1)) (a+1) (fun i h1 h2=>b.gv.pos i om);generalize Ve:Pt (yq w F) (a+1) (k-(a+1))=P at zE hP;have hT:0<=N+7*QE:=om
 have bud1:(N+7*QE)*P<=cb a:=by
  refine Int.le_trans ?_ zE;refine Int.mul_le_mul_of_nonneg_left ?_ hT;rw[Int.mul_comm];exact mF (Int.le_of_lt hP) hL
 by_cases c0:u (aj w (F a))-q*F a (aj w (F a))=0
 ·left
  have fin:=Hr b2 ha ho (N:=N+8*QE) (Q:=Q+1) (fun j hj=>by
   by_cases e:j=aj w (F a)
   ·rw[e];exact c0
   ·exact za j om) om om KB zD (by
   rw[Ve,show N+8*QE+7*((Q+1)*13122)=N+15*QE+91854 by rw[TG];omega];have:=Int.mul_le_mul_of_nonneg_right (show N+15*QE+91854<=7*(N+7*QE) by omega) (Int.le_of_lt hP);rw[Int.mul_assoc]at this;omega)
  obtain⟨f1,a',f2⟩:=fin;exact⟨c0,f1,b2,a',_,_,f2⟩
 ·right
  have hx:0<u (aj w (F a))-q*F a (aj w (F a)):=om
  have AN:aj w (fun j=>u j-q*F a j)=aj w (F a):=iz (Nat.le_of_lt (b.gv.lt a ha)) za (fun _=>by show u (aj w (F a))-q*F a (aj w (F a))≠0;omega);have lo:∀z,z<a+1->z<k->aj w (F z)<=aj w (F a):=fun z z1 z2=>by
   by_cases e:z=a
   ·rw[e];omega
   ·have:=b.gv.inc z a om ha;omega
  have hi:∀z,a+1<=z->z<k->aj w (F a)<aj w (F z):=fun z z1 z2=>b.gv.inc a z om z2
  have s1:=pP b.gv (E:=13122) (N:=N+8*QE) (Q:=Q+1) (v:=fun j=>u j-q*F a j) om om om ho lo hi KB (fun z z1 z2=>zD z om z2) om (by rw[show(Q+1)*13122=QE+13122 by rw[TG];omega];omega);have s2:=rP b.gv (E:=13122) (N:=N+8*QE) (Q:=Q+1) (v:=fun j=>u j-q*F a j) om om om ho lo hi KB (fun z z1 z2=>zD z om z2) k (Nat.le_refl _);obtain⟨s1,s3⟩:=s1;have b3:=b2.low (aj w (F a));have e3:∀j,j<=aj w (F a)->bG w F (aj w (F a)) k (fun j=>u j-q*F a j) j=u j-q*F a j:=fun j hj=>s2.cJ j (fun z z1 z2=>by have:=hi z z1 z2;omega)
  have r3:=s2.red;generalize bG w F (aj w (F a)) k (fun j=>u j-q*F a j)=u3 at *;have ec:u3 (aj w (F a))=u (aj w (F a))-q*F a (aj w (F a)):=e3 _ (Nat.le_refl _);have hm:N+29*QE<=cb 3:=by
   have h4:=ta (a:=a+1) (b:=3) om;rw[vZ]at h4;omega
  obtain⟨m1,m2,m3⟩:=LM b3 ha ho (n:=104976) (m:=N+29*QE) (fun j hj=>by rw[e3 j om];exact za j hj) (by rw[ec];exact⟨hx,x2⟩) (fun z z1 z2=>r3 z om z2) (fun z z1 z2=>h.cJ.red a z (Nat.le_refl _) z1 z2)
   (fun j=>by have:=s3 j;rw[show(Q+1)*13122=QE+13122 by rw[TG];omega]at this;omega) (fun j=>by have:=h.cJ.le a (Nat.le_refl _) ha j;omega) hm (by
   rw[Ve,ec];generalize u (aj w (F a))-q*F a (aj w (F a))=x at *;generalize hy:F a (aj w (F a))=y at *;have q1:104976*x+(N+29*QE)*y<=7*(N+7*QE)*y:=by
    have h1:=Int.mul_le_mul_of_nonneg_right (show 104976+(N+29*QE)<=7*(N+7*QE) by omega) (Int.le_of_lt hL);rw[Int.add_mul]at h1;omega
   have q2:=Int.mul_le_mul_of_nonneg_right q1 (Int.le_of_lt hP);refine Int.le_trans q2 ?_;rw[Int.mul_assoc,Int.mul_assoc];omega)
  exact⟨c0,AN,s1,m1,by rw[ec];exact x2,m2,_,_,m3⟩
theorem LK.y0{w k a:Nat}{F:Nat->aQ}{v:aQ}{F0:Nat->aQ}{n m:Int}(b:iX w k F v F0)(h:LK w k a F v n m):0<F a (aj w v):=by have:=b.gv.pos a h.ak;rw[h.eq]at this;exact this
theorem LK.low{w k a:Nat}{F:Nat->aQ}{v:aQ}{F0:Nat->aQ}{n m:Int}(b:iX w k F v F0)(h:LK w k a F v n m):(∀y,y<=k->bG w F (aj w v) y v=v)/\lJ w F (aj w v) k v:=by
 have lo:∀z,z<a+1->z<k->aj w (F z)<=aj w v:=fun z z1 z2=>by
  by_cases e:z=a
  ·rw[e,h.eq];omega
  ·have:=h.lo z om;omega
 have id:=LG (c:=aj w v) b.gv lo (fun z z1 z2=>h.rv z om z2);refine⟨id,fun y hy hc j=>?_⟩;rw[id y om,id (y+1) om];have cy:a<y:=by
  rcases Nat.lt_or_ge a y with q|q
  ·exact q
  ·have:=lo y om hy;omega
 obtain⟨r1,r2⟩:=h.rv y cy hy;have hv:=h.vn j;have hP:=rQ (f:=yq w F) (k-(a+1)) (a+1) (fun i h1 h2=>b.gv.pos i om);have NU:=h.y0 b;have hx:=h.xy;have hn:0<=n:=by have:=h.vn 0;omega
 have hm:0<=m:=by have:=h.fm 0;omega
 have b1:=h.LJ;have b2:0<=n*F a (aj w v):=Int.mul_nonneg hn om;have b3:0<=m*v (aj w v):=Int.mul_nonneg hm om;have b4:=mF (show 0<=n*F a (aj w v)+m*v (aj w v) by omega) hP;have b5:=mF hn NU;have hak:=h.ak;have hk:=b.k3;have b6:=Am (a:=a) om;rw[Int.ediv_eq_zero_of_lt r1 r2,Int.zero_mul];omega
theorem O5{w k a:Nat}{F:Nat->aQ}{v:aQ}{F0:Nat->aQ}{n m:Int}(b:iX w k F v F0)(h:LK w k a F v n m){q:Int}(eq:q=v (aj w v) / F a (aj w v)) :
  (∀j,(q*F a j).natAbs<=9000000000000000000/\(v j-q*F a j).natAbs<=9000000000000000000)/\Next w k F0 F a (fun j=>v j-q*F a j):=by
 have ha:=h.ak;have hk:=b.k3;have he:=h.eq;have YS:=h.xy;have zE:=h.LJ;rw[<-he]at eq YS zE;have hL:=b.gv.pos a ha;have hn:91854<=n:=by have:=h.vn 0;omega
 have hm:91854<=m:=by have:=h.fm 0;omega
 have hP:=rQ (f:=yq w F) (k-(a+1)) (a+1) (fun i h1 h2=>b.gv.pos i om);generalize Ve:Pt (yq w F) (a+1) (k-(a+1))=P at zE hP;obtain⟨x1,x2⟩:=vg (x:=v (aj w (F a))) hL;rw[<-eq]at x1 x2;have LN:1<=q:=by
  rcases Int.lt_or_le q 1 with c|c
  ·have:=Int.mul_le_mul_of_nonneg_right (show q<=0 by omega) (Int.le_of_lt hL);omega
  ·exact c
 have hqm:q*m<=m*v (aj w (F a)):=by
  rw[Int.mul_comm];refine Int.mul_le_mul_of_nonneg_left ?_ om;have:=mF (show 0<=q by omega) hL;omega
 have Xe:n+q*m<=n*F a (aj w (F a))+m*v (aj w (F a)):=by have:=mF (show 0<=n by omega) hL;omega
 have hqm0:91854<=q*m:=by
  have:=Int.mul_le_mul_of_nonneg_right LN (show 0<=m by omega);omega
 have Ip:(n+q*m)*P<=7*cb a:=Int.le_trans (Int.mul_le_mul_of_nonneg_right Xe (Int.le_of_lt hP)) zE;have Yk:n+q*m<=7*cb a:=Int.le_trans (mF om hP) Ip;have h3:7*cb a<=cb 3:=by rw[<-vZ];exact ta om
 have h3n:=O0;have TH:∀j,(q*F a j).natAbs+91854*q<=q*m:=fun j=>by
  rw[Int.natAbs_mul];have:=h.fm j;have h1:=Int.mul_le_mul_of_nonneg_left this (show 0<=q by omega);rw[Int.mul_add]at h1;have:((q.natAbs*(F a j).natAbs:Nat):Int)=q*((F a j).natAbs:Int):=by
   rw[Int.natCast_mul];congr 1;omega
  omega
 have KB:∀j,(v j-q*F a j).natAbs+91854+91854*q<=n+q*m:=fun j=>by have:=TH j;have:=h.vn j;omega
 refine⟨fun j=>⟨by have:=TH j;omega,by have:=KB j;omega⟩,?_⟩;have b2:=b.take ha q;have za:∀j,j<aj w (F a)->v j-q*F a j=0:=fun j hj=>by
  rw[bz (w:=w) (v:=v) om,bz hj];omega
 have zD:∀z,a<z->z<k->((v (aj w (F z))-q*F a (aj w (F z))).natAbs<=(q*F z (aj w (F z))).natAbs):=fun z z1 z2=>by
  obtain⟨r1,r2⟩:=h.rv z z1 z2;obtain⟨r3,r4⟩:=h.rf z z1 z2;have r5:=Int.mul_le_mul_of_nonneg_left (Int.le_of_lt r4) (show 0<=q by omega);have r6:=Int.mul_nonneg (show 0<=q by omega) r3;have r7:=Int.mul_le_mul_of_nonneg_right LN (show 0<=F z (aj w (F z)) by omega);omega
 have hN:(n+q*m-91854-91854*q)+7*(q*13122)<=n+q*m:=om
 have Ts:0<=n+q*m-91854-91854*q:=by have:=KB 0;omega
 by_cases c0:v (aj w (F a))-q*F a (aj w (F a))=0
 ·left
  obtain⟨f1,a',f2⟩:=Hr b2 ha h.cJ (N:=n+q*m-91854-91854*q) (Q:=q) (fun j hj=>by
   by_cases e:j=aj w (F a)
   ·rw[e];exact c0
   ·exact za j om) Ts LN (fun j=>by have:=KB j;omega) zD (by
   rw[Ve];exact Int.le_trans (Int.mul_le_mul_of_nonneg_right hN (Int.le_of_lt hP)) Ip)
  exact⟨c0,f1,b2,a',_,_,f2⟩
 ·right
  have hx:0<v (aj w (F a))-q*F a (aj w (F a)):=om
  have AN:aj w (fun j=>v j-q*F a j)=aj w (F a):=iz (Nat.le_of_lt (b.gv.lt a ha)) za (fun _=>by show v (aj w (F a))-q*F a (aj w (F a))≠0;omega);have lo:∀z,z<a+1->z<k->aj w (F z)<=aj w (F a):=fun z z1 z2=>by
   by_cases e:z=a
   ·rw[e];omega
   ·have:=b.gv.inc z a om ha;omega
  have hi:∀z,a+1<=z->z<k->aj w (F a)<aj w (F z):=fun z z1 z2=>b.gv.inc a z om z2
  obtain⟨s1,s3⟩:=pP b.gv (E:=13122) (N:=n+q*m-91854-91854*q) (Q:=q) (v:=fun j=>v j-q*F a j) om Ts om h.cJ lo hi (fun j=>by have:=KB j;omega) (fun z z1 z2=>zD z om z2) om om;have s2:=rP b.gv (E:=13122) (N:=n+q*m-91854-91854*q) (Q:=q) (v:=fun j=>v j-q*F a j) om Ts om h.cJ lo hi (fun j=>by have:=KB j;omega) (fun z z1 z2=>zD z om z2) k (Nat.le_refl _);have b3:=b2.low (aj w (F a));have e3:∀j,j<=aj w (F a)->bG w F (aj w (F a)) k (fun j=>v j-q*F a j) j=v j-q*F a j:=fun j hj=>s2.cJ j (fun z z1 z2=>by have:=hi z z1 z2;omega)
  have r3:=s2.red;generalize bG w F (aj w (F a)) k (fun j=>v j-q*F a j)=u3 at *;have ec:u3 (aj w (F a))=v (aj w (F a))-q*F a (aj w (F a)):=e3 _ (Nat.le_refl _);obtain⟨m1,m2,m3⟩:=LM b3 ha h.cJ (n:=m) (m:=n+q*m) (fun j hj=>by rw[e3 j om];exact za j hj) (by rw[ec];exact⟨hx,x2⟩) (fun z z1 z2=>r3 z om z2) h.rf
   (fun j=>by have:=s3 j;omega) h.fm om (by
   rw[Ve,ec];have e:m*(v (aj w (F a))-q*F a (aj w (F a)))+(n+q*m)*F a (aj w (F a))=n*F a (aj w (F a))+m*v (aj w (F a)):=by
    rw[Int.mul_sub,Int.add_mul,<-Int.mul_assoc,Int.mul_comm m q];omega
   rw[e];exact zE)
  exact⟨c0,AN,s1,m1,by rw[ec];exact x2,m2,_,_,m3⟩
end Go.Proofs.YtdpbiegfljmhmaaGreat.Ext
namespace Go.Proofs.YtdpbiegfljmhmaaGreat.Ext
def jI(F:Nat->aQ)(a:Nat)(v:aQ):Nat->aQ:=fun y=>if y<a then F y else if y=a then v else F (y-1)
theorem yr{F:Nat->aQ}{a y:Nat}(v:aQ)(h:y<a):jI F a v y=F y:=by unfold jI;rw[if_pos h]
theorem BC{F:Nat->aQ}{a:Nat}(v:aQ):jI F a v a=v:=by unfold jI;rw[if_neg om,if_pos rfl]
theorem BD{F:Nat->aQ}{a y:Nat}(v:aQ)(h:a<y):jI F a v y=F (y-1):=by unfold jI;rw[if_neg om,if_neg om]
theorem Hs{w:Nat}{F:Nat->aQ}{v:aQ}:∀(d a k:Nat),a+d=k->kM w (k+1) (jI F a v) (put F k v)
 |0,a,k,h=>by
  obtain rfl:a=k:=om
  refine .of_eq (fun i hi=>?_);unfold put;by_cases c:i=a
  ·rw[if_pos c,c,BC]
  ·rw[if_neg c,yr v om]
 |d+1,a,k,h=>by
  have ih:=Hs (w:=w) (F:=F) (v:=v) d (a+1) k om;have hs:=kM.swap (w:=w) (k:=k+1) (F:=jI F (a+1) v) (a:=a) (b:=a+1) om om;refine kM.trans (.of_eq (fun i hi=>?_)) (hs.trans ih);show jI F a v i=if i=a+1 then jI F (a+1) v a else if i=a then jI F (a+1) v (a+1)else jI F (a+1) v i
  by_cases c1:i=a+1
  ·rw[if_pos c1,c1,BD v om,yr v om];rfl
  ·rw[if_neg c1]
   by_cases c2:i=a
   ·rw[if_pos c2,c2,BC,BC]
   ·rw[if_neg c2]
    by_cases c3:i<a
    ·rw[yr v c3,yr v om]
    ·rw[BD v om,BD v om]
structure rR(w K i:Nat)(F F0:Nat->aQ):Prop where
 gv:A8 w K F
 Ck:kM w K F F0
 Ja:∀y,y<K->∀j,(F y j).natAbs<=1259949000000
 red:∀y z,i<=y->y<z->z<K->0<=F y (aj w (F z))/\F y (aj w (F z))<F z (aj w (F z))
 k4:K<=4
 hM:∀i,i<K->∀j,(F0 i j).natAbs<=9
theorem O6{K:Nat}(h:K<=4):K*(sQ K K*9 ^ K)<=629856:=by
 have:K=0\/K=1\/K=2\/K=3\/K=4:=om
 rcases this with rfl|rfl|rfl|rfl|rfl<;>decide
theorem A8.small{w K z:Nat}{F F0:Nat->aQ}(s:A8 w K F)(l:kM w K F F0)(hM:∀i,i<K->∀j,(F0 i j).natAbs<=9)(k4:K<=4)(hz:z<K)(hr:∀m,z<m->m<K->0<=F z (aj w (F m))/\F z (aj w (F m))<F m (aj w (F m)))(j:Nat):(F z j).natAbs<=629856:=
 Nat.le_trans (kM.bound s l hM hz (fun m hm=>by
  rcases Nat.lt_trichotomy m z with q|q|q
  ·rw[bz (w:=w) (v:=F z) (s.inc m z q hz)];exact Nat.zero_le _
  ·rw[q];exact Nat.le_refl _
  ·have:=hr m q hm;omega) j) (O6 k4)
theorem rR.cJ{w K i:Nat}{F F0:Nat->aQ}(f:rR w K (i+1) F F0):Old w K (i+1) F 629856:=
 ⟨fun z h1 h2 j=>f.gv.small f.Ck f.hM f.k4 h2 (fun m q1 q2=>f.red z m h1 q1 q2) j,fun y z h1 h2 h3=>f.red y z h1 h2 h3⟩
theorem rR.step{w K i:Nat}{F F0:Nat->aQ}(f:rR w K (i+1) F F0)(hi:i<K):lJ w F (aj w (F i)) K (F i)/\rR w K i (put F i (bG w F (aj w (F i)) K (F i))) F0:=by
 have ho:=f.cJ;have lo:∀z,z<i+1->z<K->aj w (F z)<=aj w (F i):=fun z z1 z2=>by
  by_cases e:z=i
  ·rw[e];omega
  ·have:=f.gv.inc z i om hi;omega
 have YT:∀z,i+1<=z->z<K->aj w (F i)<aj w (F z):=fun z z1 z2=>f.gv.inc i z om z2
 have hv:∀j,(F i j).natAbs<=(1259949000000:Int).natAbs:=fun j=>f.Ja i hi j
 have hl:∀z,i+1<=z->z<K->(F i (aj w (F z))).natAbs<=(1259949000000*F z (aj w (F z))).natAbs:=fun z z1 z2=>by
  have:=f.gv.pos z z2;have:=f.Ja i hi (aj w (F z));omega
 have k4:=f.k4;obtain⟨s1,_⟩:=pP f.gv (E:=629856) (N:=1259949000000) (Q:=1259949000000) om om om ho lo YT hv hl om om;have s2:=rP f.gv (E:=629856) (N:=1259949000000) (Q:=1259949000000) om om om ho lo YT hv hl K (Nat.le_refl _);refine⟨s1,?_⟩;have Vf:=F4 (w:=w) (k:=K) (F:=F) (c:=aj w (F i)) (v:=F i) hi K (Nat.le_refl _) (fun z _ hz e=>by rw[e]at hz;omega);rw[jj]at Vf;have e3:∀j,j<=aj w (F i)->bG w F (aj w (F i)) K (F i) j=F i j:=fun j hj=>s2.cJ j (fun z z1 z2=>by have:=YT z z1 z2;omega)
 have r3:=s2.red;generalize bG w F (aj w (F i)) K (F i)=u at *;have JZ:=gf (F:=F) (k:=i) u;have EG:∀y,y≠i->put F i u y=F y:=fun y hy=>fN u hy
 have Vg:aj w u=aj w (F i):=iz (mP _ _) (fun j hj=>by rw[e3 j om];exact bz hj) (fun q=>by rw[e3 _ (Nat.le_refl _)];exact lD q);have hle:∀y,aj w (put F i u y)=aj w (F y):=fun y=>by
  by_cases e:y=i
  ·rw[e,JZ,Vg]
  ·rw[EG y e]
 have tU:A8 w K (put F i u):=⟨fun y hy=>by rw[hle];exact f.gv.lt y hy,fun y hy=>by
  rw[hle];by_cases e:y=i
  ·rw[e,JZ,e3 _ (Nat.le_refl _)];exact f.gv.pos i hi
  ·rw[EG y e];exact f.gv.pos y hy,fun y z h1 h2=>by rw[hle,hle];exact f.gv.inc y z h1 h2⟩
 have zD:∀y z,i<=y->y<z->z<K->0<=put F i u y (aj w (put F i u z))/\put F i u y (aj w (put F i u z))<put F i u z (aj w (put F i u z)):=fun y z h1 h2 h3=>by
  rw[hle,EG z om];by_cases e:y=i
  ·rw[e,JZ];exact r3 z om h3
  ·rw[EG y e];exact f.red y z om h2 h3
 have AN:=Vf.trans f.Ck;refine⟨tU,AN,fun y hy j=>?_,zD,f.k4,f.hM⟩;by_cases e:y=i
 ·have:=tU.small AN f.hM f.k4 hy (fun m q1 q2=>zD y m om q1 q2) j
  omega
 ·rw[EG y e];exact f.Ja y hy j
theorem rR.O7{w K:Nat}{F F0:Nat->aQ}(f:rR w K 0 F F0):Ft w K F:=⟨f.gv.lt,f.gv.pos,f.gv.inc,fun y z h1 h2=>f.red y z (Nat.zero_le _) h1 h2⟩
theorem Ft.small{w K:Nat}{F F0:Nat->aQ}(h:Ft w K F)(l:kM w K F F0)(hM:∀i,i<K->∀j,(F0 i j).natAbs<=9)(k4:K<=4){i:Nat}(hi:i<K)(j:Nat):(F i j).natAbs<=629856:=
 h.gv.small l hM k4 hi (fun m q1 q2=>h.red i m q1 q2) j
theorem yu{w k a:Nat}{F:Nat->aQ}{u:aQ}{F0:Nat->aQ}(b:iX w k F u F0)(hM:∀i,i<k+1->∀j,(F0 i j).natAbs<=9)(ak:a<=k)(lo:∀y,y<a->aj w (F y)<aj w u)(hi:∀z,a<=z->z<k->aj w u<aj w (F z))(hp:0<u (aj w u))(hu:∀j,(u j).natAbs<=1259949000000):rR w (k+1) (k+1) (jI F a u) F0:=by
 have v1:∀y,y<a->jI F a u y=F y:=fun y hy=>yr u hy
 have v2:jI F a u a=u:=BC u;have v3:∀y,a<y->jI F a u y=F (y-1):=fun y hy=>BD u hy
 have cs:∀y,y<k+1->(y<a/\jI F a u y=F y)\/(y=a/\jI F a u y=u)\/(a<y/\jI F a u y=F (y-1)):=fun y hy=>by
  rcases Nat.lt_trichotomy y a with q|q|q
  ·exact .inl ⟨q,v1 y q⟩
  ·exact .inr (.inl ⟨q,by rw[q];exact v2⟩)
  ·exact .inr (.inr ⟨q,v3 y q⟩)
 have k3:=b.k3;have c3:=O0;refine⟨⟨fun y hy=>?_,fun y hy=>?_,fun y z h1 h2=>?_⟩,(Hs (k-a) a k om).trans b.Ck,fun y hy j=>?_,fun y z h1 h2 h3=>om,om,hM⟩
 ·rcases cs y hy with ⟨q,e⟩|⟨q,e⟩|⟨q,e⟩<;>rw[e]
  ·exact b.gv.lt y om
  ·exact b.lead
  ·exact b.gv.lt (y-1) om
 ·rcases cs y hy with ⟨q,e⟩|⟨q,e⟩|⟨q,e⟩<;>rw[e]
  ·exact b.gv.pos y om
  ·exact hp
  ·exact b.gv.pos (y-1) om
 ·rcases cs y om with ⟨q,e⟩|⟨q,e⟩|⟨q,e⟩<;>rw[e]<;>rcases cs z h2 with ⟨q2,e2⟩|⟨q2,e2⟩|⟨q2,e2⟩<;>rw[e2]
  ·exact b.gv.inc y z h1 om
  ·exact lo y q
  ·rcases Nat.lt_or_ge y (z-1)with r|r
   ·exact b.gv.inc y (z-1) r om
   ·omega
  ·omega
  ·omega
  ·exact hi (z-1) om om
  ·omega
  ·omega
  ·exact b.gv.inc (y-1) (z-1) om om
 ·rcases cs y hy with ⟨q,e⟩|⟨q,e⟩|⟨q,e⟩<;>rw[e]
  ·have:=b.Ja y om j;omega
  ·exact hu j
  ·have:=b.Ja (y-1) om j;omega
theorem Sk{w k a:Nat}{F:Nat->aQ}{u:aQ}{F0:Nat->aQ}(b:iX w k F u F0)(ak:a<=k)(ho:Old w k a F 13122)(lo:∀y,y<a->aj w (F y)<aj w u)(hi:∀z,a<=z->z<k->aj w u<aj w (F z))(hn:u (aj w u)<0)(hu:∀j,(u j).natAbs<=(cb 3).natAbs)
  (ru:∀z,a<=z->z<k->0<=u (aj w (F z))/\u (aj w (F z))<F z (aj w (F z))) {v:aQ} (ev:v=fun j=>u j-2*u j):aj w v=aj w u/\lJ w F (aj w u) k v/\iX w k F (bG w F (aj w u) k v) F0/\aj w (bG w F (aj w u) k v)=aj w u/\0<bG w F (aj w u) k v (aj w u)/\∀j,(bG w F (aj w u) k v j).natAbs<=1259949000000:=by
 have hv:∀j,v j=-(u j):=fun j=>by rw[ev];show u j-2*u j=-(u j);omega
 have b1:iX w k F v F0:=⟨b.gv,by
  have h:=kM.neg (w:=w) (k:=k+1) (F:=put F k u) (r:=k) om;rw[jk,gf]at h;have e:(fun j=>-(u j))=v:=by funext j;rw[hv]
  rw[e]at h;exact h.trans b.Ck,b.Ja,b.k3,b.nz⟩
 have hl:aj w v=aj w u:=iz (mP _ _) (fun j hj=>by rw[hv,bz hj];rfl) (fun q=>by rw[hv];have:=lD q;omega);have Xf:∀z,z<a->z<k->aj w (F z)<=aj w u:=fun z z1 _=>Nat.le_of_lt (lo z z1)
 have hN:∀j,(v j).natAbs<=(1259948825856:Int).natAbs:=fun j=>by rw[hv];have:=hu j;have:=O0;omega
 have hQ:∀z,a<=z->z<k->(v (aj w (F z))).natAbs<=(1*F z (aj w (F z))).natAbs:=fun z z1 z2=>by rw[hv];have:=ru z z1 z2;omega
 have k3:=b.k3;obtain⟨s1,s2⟩:=pP b.gv (E:=13122) (N:=1259948825856) (Q:=1) om om om ho Xf hi hN hQ om om;have s3:=rP b.gv (E:=13122) (N:=1259948825856) (Q:=1) om om om ho Xf hi hN hQ k (Nat.le_refl _);have e3:∀j,j<=aj w u->bG w F (aj w u) k v j=v j:=fun j hj=>s3.cJ j (fun z z1 z2=>by have:=hi z z1 z2;omega)
 refine⟨hl,s1,b1.low _,iz (mP _ _) (fun j hj=>by rw[e3 j om,hv,bz hj];rfl) (fun q=>by rw[e3 _ (Nat.le_refl _),hv];omega),by rw[e3 _ (Nat.le_refl _),hv];omega,fun j=>by have:=s2 j;omega⟩
theorem LO{w k:Nat}{F F0:Nat->aQ}(h:Ft w k F)(l:kM w k F F0)(hM:∀i,i<k+1->∀j,(F0 i j).natAbs<=9)(k3:k<=3)(nz:∃d J I,(∀i,i<d->J i<w)/\prod d (rv (k+1) F0 J) (k+1) I≠0):iX w k F (F0 k) F0/\∃a,Jb w k a F (F0 k) 9 9:=by
 have hk:k=0\/k=1\/k=2\/k=3:=om
 have EE:k*(sQ k k*9 ^ k)<=13122:=by rcases hk with rfl|rfl|rfl|rfl<;>decide
 have vw:sQ k k*9 ^ k<=4374:=by rcases hk with rfl|rfl|rfl|rfl<;>decide
 have tI:∀z,z<k->∀j,(F z j).natAbs<=13122:=fun z hz j=>Nat.le_trans (kM.bound h.gv l (fun i hi=>hM i om) hz (fun m hm=>by
  rcases Nat.lt_trichotomy m z with q|q|q
  ·rw[bz (w:=w) (v:=F z) (h.inc m z q hz)];exact Nat.zero_le _
  ·rw[q];exact Nat.le_refl _
  ·have:=h.red z m q hm;omega) j) EE
 have hD:=kM.leads h.gv l (fun i hi=>hM i om);have c3:=O0;have b:iX w k F (F0 k) F0:=⟨h.gv,by
  have:=l.more (F0 k);rw[jj]at this;exact this,fun y hy j=>by have:=tI y hy j;omega,k3,nz⟩
 refine⟨b,?_⟩;obtain⟨a,p1,p2,p3⟩:=h.gv.parts (aj w (F0 k));refine⟨a,p1,p2,p3,⟨fun z _ hz j=>tI z hz j,fun y z _ h2 h3=>h.red y z h2 h3⟩,om,om,fun j=>hM k om j,fun z _ hz=>?_,?_⟩
 ·have:=h.pos z hz
  have:=hM k om (aj w (F z));omega
 ·have q1:=BB (f:=yq w F) (k:=k) (fun i hi=>h.pos i hi) a 0 om
  rw[Nat.zero_add,Nat.sub_zero,DF]at q1;have q2:fY (yq w F) k<=4374:=by
   have UP:fY (yq w F) k<=((sQ k k*9 ^ k:Nat):Int):=hD;omega
  have q3:=Int.mul_le_mul_of_nonneg_left (show Pt (yq w F) a (k-a)<=4374 by omega) (show(0:Int)<=9+7*(9*13122) by omega);have q4:=ta (a:=0) (b:=a) om;have q5:cb 0=3673320192:=by decide
  omega
end Go.Proofs.YtdpbiegfljmhmaaGreat.Ext
namespace Go.cS
def Ro(a:Nat)(o:Ty):fI:=⟨some a,none,.op false o⟩
def Ol(a:Nat)(o:Op):fI:=⟨some a,none,.op false (.cJ o)⟩
def Mv(a b:Nat):fI:=⟨some a,none,.op false (.cJ (.move (.tmp b)))⟩
def As(a b:Nat):fI:=⟨some a,none,.op false (.cJ (.assign (.tmp b)))⟩
def Ac(a:Nat)(i:Int):fI:=⟨some a,none,.op false (.cJ (.assign (.const (.int .i64 i))))⟩
def Ld(a b:Nat):fI:=⟨some a,none,.op false (.load 2 [.int .i64,.int .i64] (.tmp b))⟩
def L1(a b:Nat):fI:=⟨some a,none,.op false (.aL (.int .i64) (.tmp b))⟩
def Fa(a k b:Nat):fI:=⟨some a,none,.op false (.fieldAddr k (.tmp b))⟩
def Ix(a k b c:Nat):fI:=⟨some a,none,.op false (.rI k (.tmp b) (.tmp c))⟩
def Ex(a b k:Nat):fI:=⟨some a,none,.op false (.cJ (.extract (.tmp b) k))⟩
def Bt(a:Nat)(o:BinOp)(t b c:Nat):fI:=⟨some a,none,.op false (.cJ (.binOp o t (.tmp b) (.tmp c) t))⟩
def Bc(a:Nat)(o:BinOp)(t b:Nat)(k:IntKind)(i:Int):fI:=⟨some a,none,.op false (.cJ (.binOp o t (.tmp b) (.const (.int k i)) t))⟩
def Ca(a f:Nat)(l:List Operand)(v:Option xU):fI:=⟨some a,none,.call (.func f) l v⟩
def Dr(o:fI)(p:Nat)(l:List Nat):xZ:=⟨o,p,.none,l,false,true⟩
def Db(o:fI)(p b:Nat)(l:List Nat):xZ:=⟨o,p,.dm (.tmp b),l,false,true⟩
end Go.cS
namespace Go.Proofs.YtdpbiegfljmhmaaGreat.Ext
theorem lK{w k c:Nat}{F G:Nat->aQ}{v:aQ}(e:∀z,z<k->G z=F z):∀y,y<=k->bG w G c y v=bG w F c y v
 |0,_=>rfl
 |y+1,hy=>by
  show(if c<aj w (G y)then(fun j=>bG w G c y v j-bG w G c y v (aj w (G y)) / G y (aj w (G y))*G y j)else bG w G c y v)=_;rw[e y om,lK e y om];rfl
theorem lJ.congr{w k c:Nat}{F G:Nat->aQ}{v:aQ}(e:∀z,z<k->G z=F z)(h:lJ w F c k v):lJ w G c k v:=fun y hy hc j=>by
 rw[e y hy]at hc ⊢;rw[lK e y om,lK e (y+1) om];exact h y hy hc j
theorem A8.congr{w k:Nat}{F G:Nat->aQ}(e:∀z,z<k->G z=F z)(h:A8 w k F):A8 w k G:=
 ⟨fun i hi=>by rw[e i hi];exact h.lt i hi,fun i hi=>by rw[e i hi];exact h.pos i hi,fun i j hi hj=>by rw[e i om,e j hj];exact h.inc i j hi hj⟩
theorem Old.congr{w k a:Nat}{F G:Nat->aQ}{E:Int}(e:∀z,z<k->G z=F z)(h:Old w k a F E):Old w k a G E:=
 ⟨fun z h1 h2 j=>by rw[e z h2];exact h.le z h1 h2 j,fun y z h1 h2 h3=>by rw[e y om,e z h3];exact h.red y z h1 h2 h3⟩
theorem iX.congr{w k:Nat}{F G F0:Nat->aQ}{v:aQ}(e:∀z,z<k->G z=F z)(b:iX w k F v F0):iX w k G v F0:=
 ⟨b.gv.congr e,(kM.of_eq (fun i hi=>by unfold put;split;rfl;exact e i om)).trans b.Ck,fun y hy j=>by rw[e y hy];exact b.Ja y hy j,b.k3,b.nz⟩
theorem An{w k a:Nat}{F G:Nat->aQ}(e:∀z,z<k->G z=F z)(ha:a<=k):Pt (yq w G) a (k-a)=Pt (yq w F) a (k-a):=
 yp _ _ (fun i h1 h2=>by unfold yq;rw[e i om])
theorem Jb.congr{w k a:Nat}{F G:Nat->aQ}{v:aQ}{N Q:Int}(e:∀z,z<k->G z=F z)(h:Jb w k a F v N Q):Jb w k a G v N Q:=
 ⟨h.ak,fun y hy=>by rw[e y (by have:=h.ak;omega)];exact h.lo y hy,fun z h1 h2=>by rw[e z h2];exact h.hi z h1 h2,h.cJ.congr e,h.n0,h.q1,h.le,fun z h1 h2=>by rw[e z h2];exact h.ld z h1 h2,by rw[An e h.ak];exact h.LJ⟩
theorem LK.congr{w k a:Nat}{F G:Nat->aQ}{v:aQ}{n m:Int}(e:∀z,z<k->G z=F z)(h:LK w k a F v n m):LK w k a G v n m:=
 ⟨h.ak,fun y hy=>by rw[e y (by have:=h.ak;omega)];exact h.lo y hy,by rw[e a h.ak];exact h.eq,h.cJ.congr e,by rw[e a h.ak];exact h.xy,fun z h1 h2=>by rw[e z h2];exact h.rv z h1 h2,fun z h1 h2=>by rw[e z h2,e a h.ak];exact h.rf z h1 h2,h.vn,fun j=>by rw[e a h.ak];exact h.fm j,by rw[An e (by have:=h.ak;omega),e a h.ak];exact h.LJ⟩
structure EH(w k:Nat)(A F0:Nat->aQ)(D M:Nat):Prop where
 base:iX w k A (A k) F0
 st:(∃a N Q,Jb w k a A (A k) N Q)\/(∃a n m,LK w k a A (A k) n m)
 m0:w-aj w (A k)<=D
 m1:∀a,a<k->aj w (A a)=aj w (A k)->(A a (aj w (A k))).toNat<=M
theorem EH.low{w k D M:Nat}{A F0:Nat->aQ}(r:EH w k A F0 D M):lJ w A (aj w (A k)) k (A k)/\iX w k A (bG w A (aj w (A k)) k (A k)) F0:=by
 refine⟨?_,r.base.low _⟩;rcases r.st with ⟨a,N,Q,h⟩|⟨a,n,m,h⟩
 ·exact(h.low r.base).1
 ·exact(h.low r.base).2
def QG(w k:Nat)(A F0:Nat->aQ)(a:Nat)(u2:aQ)(D M:Nat):Prop:=
 (u2 (aj w (A a))=0/\∃D' M',D'<D/\EH w k (put A k u2) F0 D' M') \/
 (u2 (aj w (A a))≠0/\aj w u2=aj w (A a)/\lJ w A (aj w (A a)) k u2/\aj w (bG w A (aj w (A a)) k u2)=aj w (A a)/\∃M',M'<M/\EH w k (put (put A a (bG w A (aj w (A a)) k u2)) k (A a)) F0 D M')
theorem EH.next{w k a D M:Nat}{A F0:Nat->aQ}{u2:aQ}(ha:a<k)(he:aj w (A a)=aj w (A k))(hD:w-aj w (A a)<=D)(hM:(A a (aj w (A a))).toNat<=M)(n:Next w k F0 A a u2):QG w k A F0 a u2 D M:=by
 rcases n with ⟨n1,n2,b,a',N,Q,f⟩|⟨n1,n2,n3,n4,n5,b,n',m',f⟩
 ·have hk:put A k u2 k=u2:=gf u2
  have e:∀z,z<k->put A k u2 z=A z:=fun z hz=>fN u2 om
  have bl:=b.lead;refine .inl ⟨n1,w-aj w u2,(cb 3).toNat,om,by rw[hk];exact b.congr e,.inl ⟨a',N,Q,by rw[hk];exact f.congr e⟩,by rw[hk];exact Nat.le_refl _,fun z hz _=>?_⟩;rw[hk,e z hz];have:=b.Ja z hz (aj w u2);have c3:=O0;omega
 ·have h0:=b.gv.pos a ha
  rw[gf,n4]at h0;refine .inr ⟨n1,n2,n3,n4,(bG w A (aj w (A a)) k u2 (aj w (A a))).toNat,om,?_⟩;generalize bG w A (aj w (A a)) k u2=u at *;have hk:put (put A a u) k (A a) k=A a:=gf _;have e:∀z,z<k->put (put A a u) k (A a) z=put A a u z:=fun z hz=>fN _ om
  have ea:put A a u a=u:=gf u;refine⟨by rw[hk];exact b.congr e,.inr ⟨a,n',m',by rw[hk];exact f.congr e⟩,by rw[hk];omega,fun z hz hle=>?_⟩;rw[hk,e z hz]at hle ⊢;by_cases c:z=a
  ·rw[c,ea];exact Nat.le_refl _
  ·exfalso
   rw[fN u c]at hle;have h1:=b.gv.inc;rcases Nat.lt_or_gt_of_ne c with q|q
   ·have:=h1 z a q ha;rw[fN u c,ea,n4]at this;omega
   ·have:=h1 a z q hz;rw[fN u c,ea,n4]at this;omega
theorem EH.step{w k a D M:Nat}{A F0:Nat->aQ}(r:EH w k A F0 D M)(ha:a<k)(he:aj w (A a)=aj w (A k)){u u2:aQ}(eu:u=bG w A (aj w (A k)) k (A k)){q:Int}(eq:q=u (aj w (A k)) / A a (aj w (A k)))(e2:u2=fun j=>u j-q*A a j) :
  (∀j,(u j).natAbs<=9000000000000000000/\(q*A a j).natAbs<=9000000000000000000/\(u j-q*A a j).natAbs<=9000000000000000000)/\QG w k A F0 a u2 D M:=by
 have hM:=r.m1 a ha he;have hD:=r.m0;rw[<-he]at hM hD;have b:=r.base;have k3:=b.k3;have c3:=O0;rcases r.st with ⟨a0,N,Q,h⟩|⟨a0,n,m,h⟩
 ·have ea:a0=a:=by
   rcases Nat.lt_trichotomy a0 a with c|c|c
   ·have:=h.hi a0 (Nat.le_refl _) om;have:=b.gv.inc a0 a c ha;omega
   ·exact c
   ·have:=h.lo a c;omega
  subst ea;obtain⟨s1,s2⟩:=O4 b h ha he eu eq;rw[<-e2]at s2;have l2:=(h.low b).2.1;rw[<-eu]at l2;have ht:=h.top b;have hc:=Am (a:=a0) om;have hn:=h.n0;have hq:=h.q1;exact⟨fun j=>⟨by have:=l2 j;omega,(s1 j).1,(s1 j).2⟩,EH.next ha he hD hM s2⟩
 ·have ea:a0=a:=Oy (p:=fun i=>aj w (A i)) b.gv.inc h.ak ha (by show aj w (A a0)=aj w (A a);rw[h.eq,he])
  subst ea;have lP:=(h.low b).1 k (Nat.le_refl _);rw[lP]at eu;subst eu;obtain⟨s1,s2⟩:=O5 b h eq;rw[<-e2]at s2;have hv:∀j,(A k j).natAbs<=9000000000000000000:=fun j=>by
   have h1:=h.vn j;have hP:=rQ (f:=yq w A) (k-(a0+1)) (a0+1) (fun i h1 h2=>b.gv.pos i om);have NU:=h.y0 b;have hx:=h.xy;have hn:0<=n:=by have:=h.vn 0;omega
   have hm:0<=m:=by have:=h.fm 0;omega
   have b1:=h.LJ;have b2:0<=n*A a0 (aj w (A k)):=Int.mul_nonneg hn om;have b3:0<=m*A k (aj w (A k)):=Int.mul_nonneg hm om;have b4:=mF (show 0<=n*A a0 (aj w (A k))+m*A k (aj w (A k)) by omega) hP;have b5:=mF hn NU;have b6:=Am (a:=a0) om;omega
  exact⟨fun j=>⟨hv j,(s1 j).1,(s1 j).2⟩,EH.next ha he hD hM s2⟩
theorem EH.own{w k a D M:Nat}{A F0:Nat->aQ}(r:EH w k A F0 D M)(hM:∀i,i<k+1->∀j,(F0 i j).natAbs<=9)(ak:a<=k)(lo:∀y,y<a->aj w (A y)<aj w (A k))(hi:∀z,a<=z->z<k->aj w (A k)<aj w (A z)){u:aQ}(eu:u=bG w A (aj w (A k)) k (A k)) :
  aj w u=aj w (A k)/\(∀j,(u j).natAbs<=1259948825856)/\(0<u (aj w (A k))->rR w (k+1) (k+1) (jI A a u) F0) /\
  (u (aj w (A k))<0->∀v,v=(fun j=>u j-2*u j)->aj w v=aj w (A k)/\lJ w A (aj w (A k)) k v/\rR w (k+1) (k+1) (jI A a (bG w A (aj w (A k)) k v)) F0):=by
 have b:=r.base;have bu:=b.low (aj w (A k));have k3:=b.k3;have c3:=O0;obtain⟨a0,N,Q,h⟩:∃a N Q,Jb w k a A (A k) N Q:=by
  rcases r.st with h|⟨a0,n,m,h⟩
  ·exact h
  ·exfalso
   have:=h.eq;rcases Nat.lt_or_ge a0 a with c|c
   ·have:=lo a0 c;omega
   ·have:=hi a0 c h.ak;omega
 have ea:a0=a:=by
  rcases Nat.lt_trichotomy a0 a with c|c|c
  ·have:=h.hi a0 (Nat.le_refl _) om;have:=lo a0 c;omega
  ·exact c
  ·have:=h.lo a c;have:=hi a (Nat.le_refl _) (by have:=h.ak;omega);omega
 subst ea;obtain⟨_,l2,l3,l4⟩:=h.low b;rw[<-eu]at l2 l3 l4 bu;have ht:=h.top b;have hc:=Am (a:=a0) om;have hn:=h.n0;have hq:=h.q1;have hu:∀j,(u j).natAbs<=1259948825856:=fun j=>by have:=l2 j;omega
 have hl:aj w u=aj w (A k):=iz (mP _ _) (fun j hj=>by rw[l3 j om];exact bz hj) (fun q=>by rw[l3 _ (Nat.le_refl _)];exact lD q);refine⟨hl,hu,fun hp=>yu bu hM ak (fun y hy=>by rw[hl];exact lo y hy) (fun z z1 z2=>by rw[hl];exact hi z z1 z2) (by rw[hl];exact hp) (fun j=>by have:=hu j;omega),fun YU v ev=>?_⟩;obtain⟨n1,n2,n3,n4,n5,n6⟩:=Sk bu ak h.cJ (fun y hy=>by rw[hl];exact lo y hy) (fun z z1 z2=>by rw[hl];exact hi z z1 z2) (by rw[hl];exact YU) (fun j=>by have:=hu j;omega) (fun z z1 z2=>l4 z z1 z2 (hi z z1 z2)) ev;rw[hl]at n1 n2 n3 n4 n5 n6;exact⟨n1,n2,yu n3 hM ak (fun y hy=>by rw[n4];exact lo y hy) (fun z z1 z2=>by rw[n4];exact hi z z1 z2) (by rw[n4];exact n5) n6⟩
theorem EH.start{w k:Nat}{A F0:Nat->aQ}(h:Ft w k A)(l:kM w k A F0)(hM:∀i,i<k+1->∀j,(F0 i j).natAbs<=9)(k3:k<=3)(nz:∃d J I,(∀i,i<d->J i<w)/\prod d (rv (k+1) F0 J) (k+1) I≠0)(hk:A k=F0 k):∃D M,EH w k A F0 D M:=by
 obtain⟨b,a,f⟩:=LO h l hM k3 nz;rw[<-hk]at b f;refine⟨w-aj w (A k),(cb 3).toNat,b,.inl ⟨a,9,9,f⟩,Nat.le_refl _,fun z hz _=>?_⟩;have:=b.Ja z hz (aj w (A k));have c3:=O0;omega
end Go.Proofs.YtdpbiegfljmhmaaGreat.Ext
