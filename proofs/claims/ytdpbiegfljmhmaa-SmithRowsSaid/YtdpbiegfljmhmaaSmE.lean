import Derived.Test.YtdpbiegfljmhmaaSmB
set_option linter.unusedSimpArgs false
set_option linter.unusedVariables false
namespace Go.Proofs.Ytdpbiegfljmhmaa.Ext
def bm(w:Nat)(F:Nat->aJ)(c:Nat):Nat->aJ->aJ
 |0,v=>v
 |y+1,v=>if c<aj w (F y)then(fun j=>bm w F c y v j-bm w F c y v (aj w (F y)) / F y (aj w (F y))*F y j)else bm w F c y v
theorem BS{a L R:Int}(hL:0<L)(h:a.natAbs<=(R*L).natAbs)(hR:0<=R):(a / L).natAbs<=R.natAbs:=by
 have h1:-(R*L)<=a/\a<=R*L:=by
  have:0<=R*L:=Int.mul_nonneg hR (Int.le_of_lt hL);omega
 have h2:a / L<=R:=Int.ediv_le_of_le_mul hL (by omega);have h3:-R<=a / L:=Int.le_ediv_of_mul_le hL (by rw[Int.neg_mul];omega);omega
theorem gm{a b A B:Int}(ha:a.natAbs<=A.natAbs)(hb:b.natAbs<=B.natAbs)(hA:0<=A)(hB:0<=B):(a*b).natAbs<=(A*B).natAbs:=by
 rw[Int.natAbs_mul,Int.natAbs_mul];exact Nat.mul_le_mul ha hb
structure B6(w k a:Nat)(F:Nat->aJ)(E:Int):Prop where
 le:∀z,a<=z->z<k->∀j,(F z j).natAbs<=E.natAbs
 red:∀y z,a<=y->y<z->z<k->0<=F y (aj w (F z))/\F y (aj w (F z))<F z (aj w (F z))
theorem B6.later{w k a a':Nat}{F:Nat->aJ}{E:Int}(h:B6 w k a F E)(ha:a<=a'):B6 w k a' F E:=
 ⟨fun z hz hk=>h.le z (by omega) hk,fun y z hy hz hk=>h.red y z (by omega) hz hk⟩
structure Lh(w k a y:Nat)(F:Nat->aJ)(E N Q:Int)(v u:aJ):Prop where
 red:∀z,a<=z->z<y->0<=u (aj w (F z))/\u (aj w (F z))<F z (aj w (F z))
 lead:∀z,y<=z->a<=z->z<k->(u (aj w (F z))).natAbs<=(Q*2 ^ (y-a)*F z (aj w (F z))).natAbs
 le:∀j,(u j).natAbs<=(N+(Q*2 ^ (y-a)-Q)*E).natAbs
 old:∀j,(∀z,a<=z->z<k->j<aj w (F z))->u j=v j
theorem oV{w k a c:Nat}{F:Nat->aJ}{E N Q:Int}{v:aJ}(hs:mH w k F)(hE:0<=E)(hN:0<=N)(hQ:0<=Q)(ho:B6 w k a F E)(ha:∀z,z<a->z<k->aj w (F z)<=c)(hc:∀z,a<=z->z<k->c<aj w (F z))
  (hv:∀j,(v j).natAbs<=N.natAbs) (hl:∀z,a<=z->z<k->(v (aj w (F z))).natAbs<=(Q*F z (aj w (F z))).natAbs):∀y,y<=k->Lh w k a y F E N Q v (bm w F c y v)
 |0,_=>by
  refine⟨fun z h1 h2=>by omega,fun z _ h1 h2=>?_,fun j=>?_,fun j _=>rfl⟩
  ·rw[show 0-a=0 by omega,Int.pow_zero,Int.mul_one];exact hl z h1 h2
  ·rw[show 0-a=0 by omega,Int.pow_zero,Int.mul_one,show N+(Q-Q)*E=N by rw[Int.sub_self];omega];exact hv j
 |y+1,hy=>by
  have ih:=oV hs hE hN hQ ho ha hc hv hl y (by omega);by_cases cy:a<=y
  ·have hcy:=hc y cy (by omega)
   have e:bm w F c (y+1) v=fun j=>bm w F c y v j-bm w F c y v (aj w (F y)) / F y (aj w (F y))*F y j:=by
    show(if c<aj w (F y)then _ else _)=_;rw[if_pos hcy]
   rw[e];generalize bm w F c y v=u at *;have hL:=hs.pos y (by omega);have hp:(2:Int) ^ (y+1-a)=2 ^ (y-a)*2:=by rw[show y+1-a=(y-a)+1 by omega,Int.pow_succ]
   obtain⟨R,eR⟩:∃R,R=Q*2 ^ (y-a):=⟨_,rfl⟩;have hR:0<=R:=by rw[eR];exact Int.mul_nonneg hQ (Int.le_of_lt (Int.pow_pos (by omega)))
   have hRQ:Q<=R:=by
    rw[eR];have h1:(1:Int)<=2 ^ (y-a):=Int.pow_pos (by omega);have:=Int.mul_le_mul_of_nonneg_left h1 hQ;omega
   have hR2:Q*2 ^ (y+1-a)=2*R:=by rw[hp,eR,<-Int.mul_assoc,Int.mul_comm]
   have hle:=ih.le;have hlead:=ih.lead;rw[<-eR]at hle hlead;have ht:=BS hL (hlead y (Nat.le_refl _) cy (by omega)) hR;generalize hT:u (aj w (F y)) / F y (aj w (F y))=t at ht;refine⟨fun z h1 h2=>?_,fun z h0 h1 h2=>?_,fun j=>?_,fun j hj=>?_⟩
   ·by_cases ez:z=y
    ·subst ez
     show 0<=u (aj w (F z))-t*F z (aj w (F z))/\u (aj w (F z))-t*F z (aj w (F z))<F z (aj w (F z));rw[<-hT];have q1:=Int.emod_nonneg (u (aj w (F z))) (show F z (aj w (F z))≠0 by omega);have q2:=Int.emod_lt_of_pos (u (aj w (F z))) hL;have q3:=Int.emod_add_mul_ediv (u (aj w (F z))) (F z (aj w (F z)));rw[Int.mul_comm]at q3;omega
    ·show 0<=u (aj w (F z))-t*F y (aj w (F z))/\u (aj w (F z))-t*F y (aj w (F z))<F z (aj w (F z))
     rw[aW (w:=w) (v:=F y) (hs.inc z y (by omega) (by omega)),Int.mul_zero,Int.sub_zero];exact ih.red z h1 (by omega)
   ·show(u (aj w (F z))-t*F y (aj w (F z))).natAbs<=_
    rw[hR2];have q1:=hlead z (by omega) h1 h2;have q2:=ho.red y z cy (by omega) h2;have q3:(t*F y (aj w (F z))).natAbs<=(R*F z (aj w (F z))).natAbs:=gm ht (by omega) hR (by omega);have q4:0<=R*F z (aj w (F z)):=Int.mul_nonneg hR (by omega);rw[Int.mul_assoc];omega
   ·show(u j-t*F y j).natAbs<=_
    rw[hR2];have q1:=hle j;have q3:(t*F y j).natAbs<=(R*E).natAbs:=gm ht (ho.le y cy (by omega) j) hR hE;have q4:0<=R*E:=Int.mul_nonneg hR hE;have q5:0<=(R-Q)*E:=Int.mul_nonneg (by omega) hE;rw[show(2*R-Q)*E=(R-Q)*E+R*E by rw[<-Int.add_mul];congr 1;omega];omega
   ·show u j-t*F y j=v j
    rw[aW (w:=w) (v:=F y) (hj y cy (by omega)),Int.mul_zero,Int.sub_zero];exact ih.old j hj
  ·have e:bm w F c (y+1) v=bm w F c y v:=by
    show(if c<aj w (F y)then _ else _)=_;rw[if_neg (by have:=ha y (by omega) (by omega);omega)]
   rw[e];have e0:y+1-a=y-a:=by omega
   exact⟨fun z h1 h2=>by omega,fun z h0 h1 h2=>by rw[e0];exact ih.lead z (by omega) h1 h2,fun j=>by rw[e0];exact ih.le j,ih.old⟩
theorem Gc{w k a c:Nat}{F:Nat->aJ}{v:aJ}(hs:mH w k F)(ha:∀z,z<a->z<k->aj w (F z)<=c)(hr:∀z,a<=z->z<k->0<=v (aj w (F z))/\v (aj w (F z))<F z (aj w (F z))):∀y,y<=k->bm w F c y v=v
 |0,_=>rfl
 |y+1,hy=>by
  have ih:=Gc hs ha hr y (by omega);show(if c<aj w (F y)then(fun j=>bm w F c y v j-bm w F c y v (aj w (F y)) / F y (aj w (F y))*F y j)else bm w F c y v)=v;rw[ih];split
  ·rename_i q
   have cy:a<=y:=by rcases Nat.lt_or_ge y a with r|r;have:=ha y r (by omega);omega;exact r
   obtain⟨h1,h2⟩:=hr y cy (by omega);rw[Int.ediv_eq_zero_of_lt h1 h2]
   funext j;omega
  ·rfl
theorem BD{w k:Nat}{F:Nat->aJ}{c r:Nat}{v:aJ}(hr:r<k):∀y,y<=k->(∀z,z<y->c<aj w (F z)->z≠r)->jj w k (put F r (bm w F c y v)) (put F r v)
 |0,_,_=>.refl _ _ _
 |y+1,hy,hne=>by
  have ih:=BD (c:=c) (v:=v) hr y (by omega) (fun z hz=>hne z (by omega));by_cases q:c<aj w (F y)
  ·have e:bm w F c (y+1) v=fun j=>bm w F c y v j-bm w F c y v (aj w (F y)) / F y (aj w (F y))*F y j:=by
    show(if c<aj w (F y)then _ else _)=_;rw[if_pos q]
   have ny:=hne y (by omega) q;have h:=jj.sub (w:=w) (F:=put F r (bm w F c y v)) (r:=r) (y:=y) hr (by omega) (fun e=>ny e.symm) (bm w F c y v (aj w (F y)) / F y (aj w (F y)));rw[gY,show put F r (bm w F c y v) r=bm w F c y v by unfold put;rw[if_pos rfl],show put F r (bm w F c y v) y=F y by unfold put;rw[if_neg ny]]at h;rw[e];exact h.trans ih
  ·have e:bm w F c (y+1) v=bm w F c y v:=by
    show(if c<aj w (F y)then _ else _)=_;rw[if_neg q]
   rw[e];exact ih
def jD(w:Nat)(F:Nat->aJ)(c k:Nat)(v:aJ):Prop:=∀y,y<k->c<aj w (F y)->∀j,(bm w F c y v j).natAbs<=9000000000000000000/\(bm w F c y v (aj w (F y)) / F y (aj w (F y))*F y j).natAbs<=9000000000000000000/\(bm w F c (y+1) v j).natAbs<=9000000000000000000
theorem nf{w k a c:Nat}{F:Nat->aJ}{E N Q:Int}{v:aJ}(hs:mH w k F)(hE:0<=E)(hN:0<=N)(hQ:0<=Q)(ho:B6 w k a F E)(ha:∀z,z<a->z<k->aj w (F z)<=c)(hc:∀z,a<=z->z<k->c<aj w (F z))
  (hv:∀j,(v j).natAbs<=N.natAbs) (hl:∀z,a<=z->z<k->(v (aj w (F z))).natAbs<=(Q*F z (aj w (F z))).natAbs) (hka:k-a<=3) (hb:N+7*(Q*E)<=9000000000000000000):jD w F c k v/\∀j,(bm w F c k v j).natAbs<=(N+7*(Q*E)).natAbs:=by
 have all:=oV hs hE hN hQ ho ha hc hv hl;have hQE:0<=Q*E:=Int.mul_nonneg hQ hE;have pw:∀y,y<=k->Q<=Q*2 ^ (y-a)/\Q*2 ^ (y-a)<=8*Q:=fun y hy=>by
  have:y-a=0\/y-a=1\/y-a=2\/y-a=3:=by omega
  rcases this with q|q|q|q<;>rw[q]
  ·rw[Int.pow_zero];omega
  ·rw[show(2:Int) ^ 1=2 from rfl];omega
  ·rw[show(2:Int) ^ 2=4 from rfl];omega
  ·rw[show(2:Int) ^ 3=8 from rfl];omega
 have le:∀y,y<=k->∀j,(bm w F c y v j).natAbs<=(N+7*(Q*E)).natAbs:=fun y hy j=>by
  have h1:=(all y hy).le j;obtain⟨h2,h3⟩:=pw y hy;have h4:=Int.mul_le_mul_of_nonneg_right (show Q*2 ^ (y-a)-Q<=7*Q by omega) hE;have h5:=Int.mul_nonneg (show 0<=Q*2 ^ (y-a)-Q by omega) hE;rw[Int.mul_assoc]at h4;omega
 refine⟨fun y hy hcy j=>?_,le k (Nat.le_refl _)⟩;have h1:=le y (by omega) j;have h2:=le (y+1) (by omega) j;refine⟨by omega,?_,by omega⟩;have cy:a<=y:=by rcases Nat.lt_or_ge y a with r|r;have:=ha y r hy;omega;exact r
 have L:=hs.pos y hy;have h6:=(all y (by omega)).lead y (Nat.le_refl _) cy hy;have h7:=BS L h6 (by obtain⟨h2,h3⟩:=pw y (by omega);omega);have h8:=(pw y (by omega)).1;have h9:Q*2 ^ (y-a)<=4*Q:=by
  have:y-a=0\/y-a=1\/y-a=2:=by omega
  rcases this with q|q|q<;>rw[q]
  ·rw[Int.pow_zero];omega
  ·rw[show(2:Int) ^ 1=2 from rfl];omega
  ·rw[show(2:Int) ^ 2=4 from rfl];omega
 have h10:=gm (A:=4*Q) (B:=E) (show(bm w F c y v (aj w (F y)) / F y (aj w (F y))).natAbs<=_ by omega) (ho.le y cy hy j) (by omega) hE;rw[Int.mul_assoc]at h10;omega
end Go.Proofs.Ytdpbiegfljmhmaa.Ext
namespace Go.Proofs.Ytdpbiegfljmhmaa.Ext
def cb(a:Nat):Int:=3673320192*7 ^ a
theorem sL(a:Nat):cb (a+1)=7*cb a:=by unfold cb;rw[Int.pow_succ];omega
theorem F5(a:Nat):0<cb a:=by unfold cb;have:(0:Int)<7 ^ a:=Int.pow_pos (by omega);omega
theorem qA{a b:Nat}(h:a<=b):cb a<=cb b:=by
 obtain⟨d,rfl⟩:∃d,b=a+d:=⟨b-a,by omega⟩;clear h
 induction d with
 |zero=>exact Int.le_refl _
 |succ d ih=>have:=F5 (a+d);rw[show a+(d+1)=a+d+1 by omega,sL];omega
theorem Ib:cb 3=1259948825856:=by decide
theorem wI{a:Nat}(h:a<=3):cb a<=1259948825856:=by rw[<-Ib];exact qA h
def Pt(f:Nat->Int):Nat->Nat->Int
 |_,0=>1
 |a,n+1=>f a*Pt f (a+1) n
theorem pe{f:Nat->Int}:∀(n a:Nat),(∀i,a<=i->i<a+n->0<f i)->0<Pt f a n
 |0,_,_=>by show(0:Int)<1;omega
 |n+1,a,h=>Int.mul_pos (h a (by omega) (by omega)) (pe n (a+1) (fun i h1 h2=>h i (by omega) (by omega)))
theorem tc{f g:Nat->Int}:∀(n a:Nat),(∀i,a<=i->i<a+n->f i=g i)->Pt f a n=Pt g a n
 |0,_,_=>rfl
 |n+1,a,h=>by show f a*Pt f (a+1) n=g a*Pt g (a+1) n;rw[h a (by omega) (by omega),tc n (a+1) (fun i h1 h2=>h i (by omega) (by omega))]
theorem kq{x p:Int}(hx:0<=x)(hp:0<p):x<=x*p:=by
 have:=Int.mul_le_mul_of_nonneg_left (show(1:Int)<=p by omega) hx;omega
theorem xO{f:Nat->Int}{k:Nat}(h:∀i,i<k->0<f i):∀(d a:Nat),a+d<=k->Pt f (a+d) (k-(a+d))<=Pt f a (k-a)
 |0,a,_=>Int.le_refl _
 |d+1,a,hk=>by
  have ih:=xO h d (a+1) (by omega);rw[show a+(d+1)=a+1+d by omega];refine Int.le_trans ih ?_;rw[show k-a=(k-(a+1))+1 by omega];show _<=f a*Pt f (a+1) (k-(a+1));have p:=pe (f:=f) (k-(a+1)) (a+1) (fun i h1 h2=>h i (by omega));rw[Int.mul_comm];exact kq (Int.le_of_lt p) (h a (by omega))
theorem GY(f:Nat->Int):∀(n a:Nat),Pt f a (n+1)=Pt f a n*f (a+n)
 |0,a=>by show f a*1=1*f (a+0);rw[Nat.add_zero];omega
 |n+1,a=>by
  show f a*Pt f (a+1) (n+1)=f a*Pt f (a+1) n*f (a+(n+1));rw[GY f n (a+1),show a+1+n=a+(n+1) by omega,Int.mul_assoc]
theorem yO(f:Nat->Int):∀n,Pt f 0 n=d7 f n
 |0=>rfl
 |n+1=>by rw[GY,yO f n,Nat.zero_add];rfl
def uq(w:Nat)(F:Nat->aJ):Nat->Int:=fun z=>F z (aj w (F z))
theorem mH.parts{w k:Nat}{F:Nat->aJ}(h:mH w k F)(c:Nat):∃a,a<=k/\(∀y,y<a->aj w (F y)<c)/\∀z,a<=z->z<k->c<=aj w (F z):=by
 obtain⟨h1,h2,h3⟩:=h
 induction k with
 |zero=>exact⟨0,Nat.le_refl _,fun y hy=>by omega,fun z _ hz=>by omega⟩
 |succ k ih=>
  obtain⟨a,q1,q2,q3⟩:=ih (fun i hi=>h1 i (by omega)) (fun i hi=>h2 i (by omega)) (fun i j hi hj=>h3 i j hi (by omega));by_cases e:aj w (F k)<c
  ·refine⟨k+1,Nat.le_refl _,fun y hy=>?_,fun z hz hk=>by omega⟩
   by_cases ey:y=k
   ·rw[ey];exact e
   ·have:=h3 y k (by omega) (by omega);omega
  ·refine⟨a,by omega,q2,fun z hz hk=>?_⟩
   by_cases ez:z=k
   ·rw[ez];omega
   ·exact q3 z hz (by omega)
structure gQ(w k:Nat)(F:Nat->aJ)(v:aJ)(F0:Nat->aJ):Prop where
 stp:mH w k F
 lat:jj w (k+1) (put F k v) F0
 big:∀y,y<k->∀j,(F y j).natAbs<=(cb 3).natAbs
 k3:k<=3
 nz:∃d J I,(∀i,i<d->J i<w)/\aX d (rv (k+1) F0 J) (k+1) I≠0
theorem gQ.lead{w k:Nat}{F:Nat->aJ}{v:aJ}{F0:Nat->aJ}(b:gQ w k F v F0):aj w v<w:=by
 obtain⟨d,J,I,h1,h2⟩:=b.nz;have:=b.lat.ne h1 h2 (r:=k) (by omega);rw[show put F k v k=v by unfold put;rw[if_pos rfl]]at this;exact this
structure Et(w k a:Nat)(F:Nat->aJ)(v:aJ)(N Q:Int):Prop where
 ak:a<=k
 lo:∀y,y<a->aj w (F y)<aj w v
 hi:∀z,a<=z->z<k->aj w v<=aj w (F z)
 old:B6 w k a F 13122
 n0:0<=N
 q1:1<=Q
 le:∀j,(v j).natAbs<=N.natAbs
 ld:∀z,a<=z->z<k->(v (aj w (F z))).natAbs<=(Q*F z (aj w (F z))).natAbs
 bud:(N+7*(Q*13122))*Pt (uq w F) a (k-a)<=cb a
structure FQ(w k a:Nat)(F:Nat->aJ)(v:aJ)(n m:Int):Prop where
 ak:a<k
 lo:∀y,y<a->aj w (F y)<aj w v
 eq:aj w (F a)=aj w v
 old:B6 w k (a+1) F 13122
 xy:F a (aj w v)<v (aj w v)
 rv:∀z,a<z->z<k->0<=v (aj w (F z))/\v (aj w (F z))<F z (aj w (F z))
 rf:∀z,a<z->z<k->0<=F a (aj w (F z))/\F a (aj w (F z))<F z (aj w (F z))
 vn:∀j,((v j).natAbs:Int)+91854<=n
 fm:∀j,((F a j).natAbs:Int)+91854<=m
 bud:(n*F a (aj w v)+m*v (aj w v))*Pt (uq w F) (a+1) (k-(a+1))<=7*cb a
theorem eE{F:Nat->aJ}{k:Nat}(v:aJ):put F k v k=v:=by unfold put;rw[if_pos rfl]
theorem dS{F:Nat->aJ}{k i:Nat}(v:aJ)(h:i≠k):put F k v i=F i:=by unfold put;rw[if_neg h]
theorem gQ.low{w k:Nat}{F:Nat->aJ}{v:aJ}{F0:Nat->aJ}(b:gQ w k F v F0)(c:Nat):gQ w k F (bm w F c k v) F0:=
 ⟨b.stp,by
  have h:=BD (w:=w) (k:=k+1) (F:=F) (c:=c) (v:=v) (r:=k) (by omega) k (by omega) (fun z hz _=>by omega);exact h.trans b.lat,b.big,b.k3,b.nz⟩
theorem gQ.take{w k a:Nat}{F:Nat->aJ}{v:aJ}{F0:Nat->aJ}(b:gQ w k F v F0)(ha:a<k)(q:Int):gQ w k F (fun j=>v j-q*F a j) F0:=
 ⟨b.stp,by
  have h:=jj.sub (w:=w) (k:=k+1) (F:=put F k v) (r:=k) (y:=a) (by omega) (by omega) (by omega) q;rw[gY,eE,dS v (by omega)]at h;exact h.trans b.lat,b.big,b.k3,b.nz⟩
theorem Ct{w k a:Nat}{F:Nat->aJ}{v:aJ}{F0:Nat->aJ}{N Q:Int}(b:gQ w k F v F0)(ha:a<k)(ho:B6 w k (a+1) F 13122)(hz:∀j,j<=aj w (F a)->v j=0)(hN:0<=N)(hQ:1<=Q)(le:∀j,(v j).natAbs<=N.natAbs)
  (ld:∀z,a<z->z<k->(v (aj w (F z))).natAbs<=(Q*F z (aj w (F z))).natAbs) (bud:(N+7*(Q*13122))*Pt (uq w F) (a+1) (k-(a+1))<=7*cb a):aj w (F a)<aj w v/\∃a',Et w k a' F v N Q:=by
 have hc:aj w (F a)<aj w v:=by
  rcases Nat.lt_or_ge (aj w (F a)) (aj w v)with q|q
  ·exact q
  ·exact absurd (hz _ q) (jB b.lead)
 refine⟨hc,?_⟩;obtain⟨a',p1,p2,p3⟩:=b.stp.parts (aj w v);have haa:a+1<=a':=by
  rcases Nat.lt_or_ge a a' with q|q
  ·exact q
  ·have:=p3 a q ha;omega
 have hL:∀i,i<k->0<uq w F i:=fun i hi=>b.stp.pos i hi
 obtain⟨d,rfl⟩:∃d,a'=a+1+d:=⟨a'-(a+1),by omega⟩;have h1:=xO hL d (a+1) p1;have h2:0<=N+7*(Q*13122):=by omega
 have h3:=Int.mul_le_mul_of_nonneg_left h1 h2;have h4:=qA (a:=a+1) (b:=a+1+d) (by omega);rw[sL]at h4;exact⟨a+1+d,p1,p2,p3,ho.later (by omega),hN,hQ,le,fun z h1 h2=>ld z (by omega) h2,by omega⟩
theorem ET{w k a:Nat}{F:Nat->aJ}{u:aJ}{F0:Nat->aJ}{n m:Int}(b:gQ w k F u F0)(ha:a<k)(ho:B6 w k (a+1) F 13122)(hz:∀j,j<aj w (F a)->u j=0)(hx:0<u (aj w (F a))/\u (aj w (F a))<F a (aj w (F a)))
  (ru:∀z,a<z->z<k->0<=u (aj w (F z))/\u (aj w (F z))<F z (aj w (F z))) (rf:∀z,a<z->z<k->0<=F a (aj w (F z))/\F a (aj w (F z))<F z (aj w (F z)))
  (un:∀j,((u j).natAbs:Int)+91854<=m) (fn:∀j,((F a j).natAbs:Int)+91854<=n) (hm:m<=cb 3)
  (bud:(n*u (aj w (F a))+m*F a (aj w (F a)))*Pt (uq w F) (a+1) (k-(a+1))<=7*cb a):aj w u=aj w (F a)/\gQ w k (put F a u) (F a) F0/\FQ w k a (put F a u) (F a) n m:=by
 have hlw:=b.stp.lt a ha;have hl:aj w u=aj w (F a):=gi (by omega) hz (fun _=>by omega);have hpa:=eE (F:=F) (k:=a) u;have hpn:∀i,i≠a->put F a u i=F i:=fun i hi=>dS u hi
 have hle:∀i,aj w (put F a u i)=aj w (F i):=fun i=>by
  by_cases e:i=a
  ·rw[e,hpa,hl]
  ·rw[hpn i e]
 have hst:mH w k (put F a u):=by
  refine⟨fun i hi=>by rw[hle];exact b.stp.lt i hi,fun i hi=>?_,fun i j h1 h2=>by rw[hle,hle];exact b.stp.inc i j h1 h2⟩;rw[hle];by_cases e:i=a
  ·rw[e,hpa];exact hx.1
  ·rw[hpn i e];exact b.stp.pos i hi
 have hpt:Pt (uq w (put F a u)) (a+1) (k-(a+1))=Pt (uq w F) (a+1) (k-(a+1)):=tc _ _ (fun i h1 h2=>by unfold uq;rw[hpn i (by omega)]);refine⟨hl,⟨hst,?_,fun y hy j=>?_,b.k3,b.nz⟩,⟨ha,fun y hy=>?_,by rw[hpa];exact hl,⟨fun z h1 h2 j=>?_,fun y z h1 h2 h3=>?_⟩,?_,fun z h1 h2=>?_,fun z h1 h2=>?_,fn,fun j=>by rw[hpa];exact un j,?_⟩⟩
 ·have h:=jj.swap (w:=w) (k:=k+1) (F:=put F k u) (a:=a) (b:=k) (by omega) (by omega)
  have e:Hw (put F k u) a k=put (put F a u) k (F a):=by
   unfold Hw;rw[eE,dS u (by omega),lE (show k≠a by omega),gY]
  rw[e]at h;exact h.trans b.lat
 ·by_cases e:y=a
  ·rw[e,hpa];have:=un j;have:=F5 3;omega
  ·rw[hpn y e];exact b.big y hy j
 ·rw[hpn y (by omega)];exact b.stp.inc y a hy ha
 ·rw[hpn z (by omega)];exact ho.le z h1 h2 j
 ·rw[hpn y (by omega),hpn z (by omega)];exact ho.red y z h1 h2 h3
 ·rw[hpa];exact hx.2
 ·rw[hpn z (by omega)];exact rf z h1 h2
 ·rw[hpa,hpn z (by omega)];exact ru z h1 h2
 ·rw[hpa,hpt];exact bud
def Next(w k:Nat)(F0 F:Nat->aJ)(a:Nat)(u2:aJ):Prop:=
 (u2 (aj w (F a))=0/\aj w (F a)<aj w u2/\gQ w k F u2 F0/\∃a' N Q,Et w k a' F u2 N Q) \/
 (u2 (aj w (F a))≠0/\aj w u2=aj w (F a)/\jD w F (aj w (F a)) k u2/\aj w (bm w F (aj w (F a)) k u2)=aj w (F a)/\bm w F (aj w (F a)) k u2 (aj w (F a))<F a (aj w (F a))/\gQ w k (put F a (bm w F (aj w (F a)) k u2)) (F a) F0/\∃n m,FQ w k a (put F a (bm w F (aj w (F a)) k u2)) (F a) n m)
theorem rU{x y:Int}(hy:0<y):0<=x-x / y*y/\x-x / y*y<y:=by
 have q1:=Int.emod_nonneg x (show y≠0 by omega);have q2:=Int.emod_lt_of_pos x hy;have q3:=Int.emod_add_mul_ediv x y;rw[Int.mul_comm]at q3;omega
end Go.Proofs.Ytdpbiegfljmhmaa.Ext
namespace Go.Proofs.Ytdpbiegfljmhmaa.Ext
theorem Et.top{w k a:Nat}{F:Nat->aJ}{v:aJ}{F0:Nat->aJ}{N Q:Int}(b:gQ w k F v F0)(h:Et w k a F v N Q):N+7*(Q*13122)<=cb a:=by
 have p:=pe (f:=uq w F) (k-a) a (fun i h1 h2=>b.stp.pos i (by omega));have:=h.bud;have h2:=h.n0;have h3:=h.q1;have:=kq (show 0<=N+7*(Q*13122) by omega) p;omega
theorem Et.low{w k a:Nat}{F:Nat->aJ}{v:aJ}{F0:Nat->aJ}{N Q:Int}(b:gQ w k F v F0)(h:Et w k a F v N Q) :
  jD w F (aj w v) k v/\(∀j,(bm w F (aj w v) k v j).natAbs<=(N+7*(Q*13122)).natAbs)/\(∀j,j<=aj w v->bm w F (aj w v) k v j=v j)/\∀z,a<=z->z<k->aj w v<aj w (F z)->0<=bm w F (aj w v) k v (aj w (F z))/\bm w F (aj w v) k v (aj w (F z))<F z (aj w (F z)):=by
 have htop:=h.top b;have hn:=h.n0;have hq:=h.q1;have hk:=b.k3;have key:∀a1,a<=a1->a1<=a+1->a1<=k->(∀z,z<a1->z<k->aj w (F z)<=aj w v)->(∀z,a1<=z->z<k->aj w v<aj w (F z))->jD w F (aj w v) k v/\(∀j,(bm w F (aj w v) k v j).natAbs<=(N+7*(Q*13122)).natAbs)/\(∀j,j<=aj w v->bm w F (aj w v) k v j=v j)/\∀z,a1<=z->z<k->0<=bm w F (aj w v) k v (aj w (F z))/\bm w F (aj w v) k v (aj w (F z))<F z (aj w (F z)):=by
  intro a1 h1 h2 h3 lo hi;have ho:=h.old.later h1;have hld:∀z,a1<=z->z<k->(v (aj w (F z))).natAbs<=(Q*F z (aj w (F z))).natAbs:=fun z q1 q2=>h.ld z (by omega) q2
  obtain⟨s1,s2⟩:=nf b.stp (E:=13122) (by omega) hn (by omega) ho lo hi h.le hld (by omega) (by have:=wI (a:=a) (by have:=h.ak;omega);omega);have s3:=oV b.stp (E:=13122) (by omega) hn (by omega) ho lo hi h.le hld k (Nat.le_refl _);exact⟨s1,s2,fun j hj=>s3.old j (fun z q1 q2=>by have:=hi z q1 q2;omega),s3.red⟩
 by_cases c:a<k/\aj w (F a)=aj w v
 ·obtain⟨r1,r2,r3,r4⟩:=key (a+1) (by omega) (by omega) (by omega) (fun z q1 q2=>by
   by_cases e:z=a
   ·rw[e];omega
   ·have:=h.lo z (by omega);omega) (fun z q1 q2=>by have:=b.stp.inc a z (by omega) q2;omega)
  exact⟨r1,r2,r3,fun z q1 q2 q3=>r4 z (by
   rcases Nat.lt_or_ge a z with q|q
   ·omega
   ·have:z=a:=by omega
    subst this;omega) q2⟩
 ·obtain⟨r1,r2,r3,r4⟩:=key a (by omega) (by omega) h.ak (fun z q1 q2=>by have:=h.lo z q1;omega) (fun z q1 q2=>by
   have h1:=h.hi z q1 q2;by_cases e:aj w (F z)=aj w v
   ·exfalso
    by_cases ez:z=a
    ·subst ez;exact c ⟨q2,e⟩
    ·have:=b.stp.inc a z (by omega) q2;have:=h.hi a (by omega) (by omega);omega
   ·omega)
  exact⟨r1,r2,r3,fun z q1 q2 _=>r4 z q1 q2⟩
theorem I4{w k a:Nat}{F:Nat->aJ}{v:aJ}{F0:Nat->aJ}{N Q:Int}(b:gQ w k F v F0)(h:Et w k a F v N Q)(ha:a<k)(he:aj w (F a)=aj w v){u:aJ}(eu:u=bm w F (aj w v) k v){q:Int}(eq:q=u (aj w v) / F a (aj w v)) :
  (∀j,(q*F a j).natAbs<=9000000000000000000/\(u j-q*F a j).natAbs<=9000000000000000000)/\Next w k F0 F a (fun j=>u j-q*F a j):=by
 obtain⟨l1,l2,l3,l4⟩:=h.low b;have bu:=b.low (aj w v);have htop:=h.top b;have hn:=h.n0;have hq:=h.q1;have hk:=b.k3;have hcb:=wI (a:=a) (by omega);rw[<-eu]at l2 l3 l4 bu;rw[<-he]at l3 l4 eq;have hL:=b.stp.pos a ha;have luc:u (aj w (F a))=v (aj w (F a)):=l3 _ (Nat.le_refl _);have hqQ:q.natAbs<=Q.natAbs:=by
  rw[eq,luc];exact BS hL (h.ld a (by omega) ha) (by omega)
 obtain⟨QE,eQE⟩:∃z,z=Q*13122:=⟨_,rfl⟩;rw[<-eQE]at htop l2;have hQE:13122<=QE:=by omega
 have hqF:∀j,(q*F a j).natAbs<=QE.natAbs:=fun j=>by rw[eQE];exact gm hqQ (h.old.le a (Nat.le_refl _) ha j) (by omega) (by omega)
 refine⟨fun j=>⟨by have:=hqF j;omega,by have:=hqF j;have:=l2 j;omega⟩,?_⟩;have b2:=bu.take ha q;have hu2:∀j,(u j-q*F a j).natAbs<=(N+8*QE).natAbs:=fun j=>by have:=hqF j;have:=l2 j;omega
 have hz2:∀j,j<aj w (F a)->u j-q*F a j=0:=fun j hj=>by
  rw[l3 j (by omega),aW (w:=w) (v:=v) (by omega),aW hj];omega
 have hred:∀z,a<z->z<k->((u (aj w (F z))-q*F a (aj w (F z))).natAbs<=((Q+1)*F z (aj w (F z))).natAbs):=fun z z1 z2=>by
  obtain⟨r1,r2⟩:=l4 z (by omega) z2 (b.stp.inc a z z1 z2);obtain⟨r3,r4⟩:=h.old.red a z (Nat.le_refl _) z1 z2;have r5:=gm hqQ (show(F a (aj w (F z))).natAbs<=(F z (aj w (F z))).natAbs by omega) (by omega) (by omega);have r6:0<=Q*F z (aj w (F z)):=Int.mul_nonneg (by omega) (by omega);rw[Int.add_mul,Int.one_mul];omega
 have ho:=h.old.later (a':=a+1) (by omega);obtain⟨x1,x2⟩:=rU (x:=u (aj w (F a))) hL;rw[<-eq]at x1 x2;have hbud:=h.bud;rw[<-eQE,show k-a=(k-(a+1))+1 by omega]at hbud;have hbud:(N+7*QE)*(F a (aj w (F a))*Pt (uq w F) (a+1) (k-(a+1)))<=cb a:=hbud;have hP:=pe (f:=uq w F) (k-(a+1)) (a+1) (fun i h1 h2=>b.stp.pos i (by omega));generalize hPP:Pt (uq w F) (a+1) (k-(a+1))=P at hbud hP;have hT:0<=N+7*QE:=by omega
 have bud1:(N+7*QE)*P<=cb a:=by
  refine Int.le_trans ?_ hbud;refine Int.mul_le_mul_of_nonneg_left ?_ hT;rw[Int.mul_comm];exact kq (Int.le_of_lt hP) hL
 by_cases c0:u (aj w (F a))-q*F a (aj w (F a))=0
 ·left
  have fin:=Ct b2 ha ho (N:=N+8*QE) (Q:=Q+1) (fun j hj=>by
   by_cases e:j=aj w (F a)
   ·rw[e];exact c0
   ·exact hz2 j (by omega)) (by omega) (by omega) hu2 hred (by
   rw[hPP,show N+8*QE+7*((Q+1)*13122)=N+15*QE+91854 by rw[eQE];omega];have:=Int.mul_le_mul_of_nonneg_right (show N+15*QE+91854<=7*(N+7*QE) by omega) (Int.le_of_lt hP);rw[Int.mul_assoc]at this;omega)
  obtain⟨f1,a',f2⟩:=fin;exact⟨c0,f1,b2,a',_,_,f2⟩
 ·right
  have hx:0<u (aj w (F a))-q*F a (aj w (F a)):=by omega
  have hl2:aj w (fun j=>u j-q*F a j)=aj w (F a):=gi (Nat.le_of_lt (b.stp.lt a ha)) hz2 (fun _=>by show u (aj w (F a))-q*F a (aj w (F a))≠0;omega);have lo:∀z,z<a+1->z<k->aj w (F z)<=aj w (F a):=fun z z1 z2=>by
   by_cases e:z=a
   ·rw[e];omega
   ·have:=b.stp.inc z a (by omega) ha;omega
  have hi:∀z,a+1<=z->z<k->aj w (F a)<aj w (F z):=fun z z1 z2=>b.stp.inc a z (by omega) z2
  have s1:=nf b.stp (E:=13122) (N:=N+8*QE) (Q:=Q+1) (v:=fun j=>u j-q*F a j) (by omega) (by omega) (by omega) ho lo hi hu2 (fun z z1 z2=>hred z (by omega) z2) (by omega) (by rw[show(Q+1)*13122=QE+13122 by rw[eQE];omega];omega);have s2:=oV b.stp (E:=13122) (N:=N+8*QE) (Q:=Q+1) (v:=fun j=>u j-q*F a j) (by omega) (by omega) (by omega) ho lo hi hu2 (fun z z1 z2=>hred z (by omega) z2) k (Nat.le_refl _);obtain⟨s1,s3⟩:=s1;have b3:=b2.low (aj w (F a));have e3:∀j,j<=aj w (F a)->bm w F (aj w (F a)) k (fun j=>u j-q*F a j) j=u j-q*F a j:=fun j hj=>s2.old j (fun z z1 z2=>by have:=hi z z1 z2;omega)
  have r3:=s2.red;generalize bm w F (aj w (F a)) k (fun j=>u j-q*F a j)=u3 at *;have ec:u3 (aj w (F a))=u (aj w (F a))-q*F a (aj w (F a)):=e3 _ (Nat.le_refl _);have hm:N+29*QE<=cb 3:=by
   have h4:=qA (a:=a+1) (b:=3) (by omega);rw[sL]at h4;omega
  obtain⟨m1,m2,m3⟩:=ET b3 ha ho (n:=104976) (m:=N+29*QE) (fun j hj=>by rw[e3 j (by omega)];exact hz2 j hj) (by rw[ec];exact⟨hx,x2⟩) (fun z z1 z2=>r3 z (by omega) z2) (fun z z1 z2=>h.old.red a z (Nat.le_refl _) z1 z2)
   (fun j=>by have:=s3 j;rw[show(Q+1)*13122=QE+13122 by rw[eQE];omega]at this;omega) (fun j=>by have:=h.old.le a (Nat.le_refl _) ha j;omega) hm (by
   rw[hPP,ec];generalize u (aj w (F a))-q*F a (aj w (F a))=x at *;generalize hy:F a (aj w (F a))=y at *;have q1:104976*x+(N+29*QE)*y<=7*(N+7*QE)*y:=by
    have h1:=Int.mul_le_mul_of_nonneg_right (show 104976+(N+29*QE)<=7*(N+7*QE) by omega) (Int.le_of_lt hL);rw[Int.add_mul]at h1;omega
   have q2:=Int.mul_le_mul_of_nonneg_right q1 (Int.le_of_lt hP);refine Int.le_trans q2 ?_;rw[Int.mul_assoc,Int.mul_assoc];omega)
  exact⟨c0,hl2,s1,m1,by rw[ec];exact x2,m2,_,_,m3⟩
theorem FQ.y0{w k a:Nat}{F:Nat->aJ}{v:aJ}{F0:Nat->aJ}{n m:Int}(b:gQ w k F v F0)(h:FQ w k a F v n m):0<F a (aj w v):=by have:=b.stp.pos a h.ak;rw[h.eq]at this;exact this
theorem FQ.low{w k a:Nat}{F:Nat->aJ}{v:aJ}{F0:Nat->aJ}{n m:Int}(b:gQ w k F v F0)(h:FQ w k a F v n m):(∀y,y<=k->bm w F (aj w v) y v=v)/\jD w F (aj w v) k v:=by
 have lo:∀z,z<a+1->z<k->aj w (F z)<=aj w v:=fun z z1 z2=>by
  by_cases e:z=a
  ·rw[e,h.eq];omega
  ·have:=h.lo z (by omega);omega
 have id:=Gc (c:=aj w v) b.stp lo (fun z z1 z2=>h.rv z (by omega) z2);refine⟨id,fun y hy hc j=>?_⟩;rw[id y (by omega),id (y+1) (by omega)];have cy:a<y:=by
  rcases Nat.lt_or_ge a y with q|q
  ·exact q
  ·have:=lo y (by omega) hy;omega
 obtain⟨r1,r2⟩:=h.rv y cy hy;have hv:=h.vn j;have hP:=pe (f:=uq w F) (k-(a+1)) (a+1) (fun i h1 h2=>b.stp.pos i (by omega));have hy0:=h.y0 b;have hx:=h.xy;have hn:0<=n:=by have:=h.vn 0;omega
 have hm:0<=m:=by have:=h.fm 0;omega
 have b1:=h.bud;have b2:0<=n*F a (aj w v):=Int.mul_nonneg hn (by omega);have b3:0<=m*v (aj w v):=Int.mul_nonneg hm (by omega);have b4:=kq (show 0<=n*F a (aj w v)+m*v (aj w v) by omega) hP;have b5:=kq hn hy0;have hak:=h.ak;have hk:=b.k3;have b6:=wI (a:=a) (by omega);rw[Int.ediv_eq_zero_of_lt r1 r2,Int.zero_mul];omega
theorem HY{w k a:Nat}{F:Nat->aJ}{v:aJ}{F0:Nat->aJ}{n m:Int}(b:gQ w k F v F0)(h:FQ w k a F v n m){q:Int}(eq:q=v (aj w v) / F a (aj w v)) :
  (∀j,(q*F a j).natAbs<=9000000000000000000/\(v j-q*F a j).natAbs<=9000000000000000000)/\Next w k F0 F a (fun j=>v j-q*F a j):=by
 have ha:=h.ak;have hk:=b.k3;have he:=h.eq;have hxy:=h.xy;have hbud:=h.bud;rw[<-he]at eq hxy hbud;have hL:=b.stp.pos a ha;have hn:91854<=n:=by have:=h.vn 0;omega
 have hm:91854<=m:=by have:=h.fm 0;omega
 have hP:=pe (f:=uq w F) (k-(a+1)) (a+1) (fun i h1 h2=>b.stp.pos i (by omega));generalize hPP:Pt (uq w F) (a+1) (k-(a+1))=P at hbud hP;obtain⟨x1,x2⟩:=rU (x:=v (aj w (F a))) hL;rw[<-eq]at x1 x2;have hq1:1<=q:=by
  rcases Int.lt_or_le q 1 with c|c
  ·have:=Int.mul_le_mul_of_nonneg_right (show q<=0 by omega) (Int.le_of_lt hL);omega
  ·exact c
 have hqm:q*m<=m*v (aj w (F a)):=by
  rw[Int.mul_comm];refine Int.mul_le_mul_of_nonneg_left ?_ (by omega);have:=kq (show 0<=q by omega) hL;omega
 have hnm:n+q*m<=n*F a (aj w (F a))+m*v (aj w (F a)):=by have:=kq (show 0<=n by omega) hL;omega
 have hqm0:91854<=q*m:=by
  have:=Int.mul_le_mul_of_nonneg_right hq1 (show 0<=m by omega);omega
 have htot:(n+q*m)*P<=7*cb a:=Int.le_trans (Int.mul_le_mul_of_nonneg_right hnm (Int.le_of_lt hP)) hbud;have hsum:n+q*m<=7*cb a:=Int.le_trans (kq (by omega) hP) htot;have h3:7*cb a<=cb 3:=by rw[<-sL];exact qA (by omega)
 have h3n:=Ib;have hqF:∀j,(q*F a j).natAbs+91854*q<=q*m:=fun j=>by
  rw[Int.natAbs_mul];have:=h.fm j;have h1:=Int.mul_le_mul_of_nonneg_left this (show 0<=q by omega);rw[Int.mul_add]at h1;have:((q.natAbs*(F a j).natAbs:Nat):Int)=q*((F a j).natAbs:Int):=by
   rw[Int.natCast_mul];congr 1;omega
  omega
 have hu2:∀j,(v j-q*F a j).natAbs+91854+91854*q<=n+q*m:=fun j=>by have:=hqF j;have:=h.vn j;omega
 refine⟨fun j=>⟨by have:=hqF j;omega,by have:=hu2 j;omega⟩,?_⟩;have b2:=b.take ha q;have hz2:∀j,j<aj w (F a)->v j-q*F a j=0:=fun j hj=>by
  rw[aW (w:=w) (v:=v) (by omega),aW hj];omega
 have hred:∀z,a<z->z<k->((v (aj w (F z))-q*F a (aj w (F z))).natAbs<=(q*F z (aj w (F z))).natAbs):=fun z z1 z2=>by
  obtain⟨r1,r2⟩:=h.rv z z1 z2;obtain⟨r3,r4⟩:=h.rf z z1 z2;have r5:=Int.mul_le_mul_of_nonneg_left (Int.le_of_lt r4) (show 0<=q by omega);have r6:=Int.mul_nonneg (show 0<=q by omega) r3;have r7:=Int.mul_le_mul_of_nonneg_right hq1 (show 0<=F z (aj w (F z)) by omega);omega
 have hN:(n+q*m-91854-91854*q)+7*(q*13122)<=n+q*m:=by omega
 have hN0:0<=n+q*m-91854-91854*q:=by have:=hu2 0;omega
 by_cases c0:v (aj w (F a))-q*F a (aj w (F a))=0
 ·left
  obtain⟨f1,a',f2⟩:=Ct b2 ha h.old (N:=n+q*m-91854-91854*q) (Q:=q) (fun j hj=>by
   by_cases e:j=aj w (F a)
   ·rw[e];exact c0
   ·exact hz2 j (by omega)) hN0 hq1 (fun j=>by have:=hu2 j;omega) hred (by
   rw[hPP];exact Int.le_trans (Int.mul_le_mul_of_nonneg_right hN (Int.le_of_lt hP)) htot)
  exact⟨c0,f1,b2,a',_,_,f2⟩
 ·right
  have hx:0<v (aj w (F a))-q*F a (aj w (F a)):=by omega
  have hl2:aj w (fun j=>v j-q*F a j)=aj w (F a):=gi (Nat.le_of_lt (b.stp.lt a ha)) hz2 (fun _=>by show v (aj w (F a))-q*F a (aj w (F a))≠0;omega);have lo:∀z,z<a+1->z<k->aj w (F z)<=aj w (F a):=fun z z1 z2=>by
   by_cases e:z=a
   ·rw[e];omega
   ·have:=b.stp.inc z a (by omega) ha;omega
  have hi:∀z,a+1<=z->z<k->aj w (F a)<aj w (F z):=fun z z1 z2=>b.stp.inc a z (by omega) z2
  obtain⟨s1,s3⟩:=nf b.stp (E:=13122) (N:=n+q*m-91854-91854*q) (Q:=q) (v:=fun j=>v j-q*F a j) (by omega) hN0 (by omega) h.old lo hi (fun j=>by have:=hu2 j;omega) (fun z z1 z2=>hred z (by omega) z2) (by omega) (by omega);have s2:=oV b.stp (E:=13122) (N:=n+q*m-91854-91854*q) (Q:=q) (v:=fun j=>v j-q*F a j) (by omega) hN0 (by omega) h.old lo hi (fun j=>by have:=hu2 j;omega) (fun z z1 z2=>hred z (by omega) z2) k (Nat.le_refl _);have b3:=b2.low (aj w (F a));have e3:∀j,j<=aj w (F a)->bm w F (aj w (F a)) k (fun j=>v j-q*F a j) j=v j-q*F a j:=fun j hj=>s2.old j (fun z z1 z2=>by have:=hi z z1 z2;omega)
  have r3:=s2.red;generalize bm w F (aj w (F a)) k (fun j=>v j-q*F a j)=u3 at *;have ec:u3 (aj w (F a))=v (aj w (F a))-q*F a (aj w (F a)):=e3 _ (Nat.le_refl _);obtain⟨m1,m2,m3⟩:=ET b3 ha h.old (n:=m) (m:=n+q*m) (fun j hj=>by rw[e3 j (by omega)];exact hz2 j hj) (by rw[ec];exact⟨hx,x2⟩) (fun z z1 z2=>r3 z (by omega) z2) h.rf
   (fun j=>by have:=s3 j;omega) h.fm (by omega) (by
   rw[hPP,ec];have e:m*(v (aj w (F a))-q*F a (aj w (F a)))+(n+q*m)*F a (aj w (F a))=n*F a (aj w (F a))+m*v (aj w (F a)):=by
    rw[Int.mul_sub,Int.add_mul,<-Int.mul_assoc,Int.mul_comm m q];omega
   rw[e];exact hbud)
  exact⟨c0,hl2,s1,m1,by rw[ec];exact x2,m2,_,_,m3⟩
end Go.Proofs.Ytdpbiegfljmhmaa.Ext
