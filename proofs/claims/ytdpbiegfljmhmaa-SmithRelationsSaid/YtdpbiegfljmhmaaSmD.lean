import Derived.Test.YtdpbiegfljmhmaaSmB
set_option linter.unusedSimpArgs false
set_option linter.unusedVariables false
namespace Go.Proofs.Ytdpbiegfljmhmaa.Ext
def lowV(w:Nat)(F:Nat->Vec)(c:Nat):Nat->Vec->Vec
 |0,v=>v
 |y+1,v=>if c<leadV w (F y)then(fun j=>lowV w F c y v j-lowV w F c y v (leadV w (F y)) / F y (leadV w (F y))*F y j)else lowV w F c y v
theorem div_le{a L R:Int}(hL:0<L)(h:a.natAbs<=(R*L).natAbs)(hR:0<=R):(a / L).natAbs<=R.natAbs:=by
 have h1:-(R*L)<=a/\a<=R*L:=by
  have:0<=R*L:=Int.mul_nonneg hR (Int.le_of_lt hL);omega
 have h2:a / L<=R:=Int.ediv_le_of_le_mul hL (by omega);have h3:-R<=a / L:=Int.le_ediv_of_mul_le hL (by rw[Int.neg_mul];omega);omega
theorem natAbs_mul_le{a b A B:Int}(ha:a.natAbs<=A.natAbs)(hb:b.natAbs<=B.natAbs)(hA:0<=A)(hB:0<=B):(a*b).natAbs<=(A*B).natAbs:=by
 rw[Int.natAbs_mul,Int.natAbs_mul];exact Nat.mul_le_mul ha hb
structure Old(w k a:Nat)(F:Nat->Vec)(E:Int):Prop where
 le:∀z,a<=z->z<k->∀j,(F z j).natAbs<=E.natAbs
 red:∀y z,a<=y->y<z->z<k->0<=F y (leadV w (F z))/\F y (leadV w (F z))<F z (leadV w (F z))
theorem Old.later{w k a a':Nat}{F:Nat->Vec}{E:Int}(h:Old w k a F E)(ha:a<=a'):Old w k a' F E:=
 ⟨fun z hz hk=>h.le z (by omega) hk,fun y z hy hz hk=>h.red y z (by omega) hz hk⟩
structure Lowd(w k a y:Nat)(F:Nat->Vec)(E N Q:Int)(v u:Vec):Prop where
 red:∀z,a<=z->z<y->0<=u (leadV w (F z))/\u (leadV w (F z))<F z (leadV w (F z))
 lead:∀z,y<=z->a<=z->z<k->(u (leadV w (F z))).natAbs<=(Q*2 ^ (y-a)*F z (leadV w (F z))).natAbs
 le:∀j,(u j).natAbs<=(N+(Q*2 ^ (y-a)-Q)*E).natAbs
 old:∀j,(∀z,a<=z->z<k->j<leadV w (F z))->u j=v j
theorem low_ok{w k a c:Nat}{F:Nat->Vec}{E N Q:Int}{v:Vec}(hs:Stp w k F)(hE:0<=E)(hN:0<=N)(hQ:0<=Q)(ho:Old w k a F E)(ha:∀z,z<a->z<k->leadV w (F z)<=c)(hc:∀z,a<=z->z<k->c<leadV w (F z))
  (hv:∀j,(v j).natAbs<=N.natAbs) (hl:∀z,a<=z->z<k->(v (leadV w (F z))).natAbs<=(Q*F z (leadV w (F z))).natAbs):∀y,y<=k->Lowd w k a y F E N Q v (lowV w F c y v)
 |0,_=>by
  refine⟨fun z h1 h2=>by omega,fun z _ h1 h2=>?_,fun j=>?_,fun j _=>rfl⟩
  ·rw[show 0-a=0 by omega,Int.pow_zero,Int.mul_one];exact hl z h1 h2
  ·rw[show 0-a=0 by omega,Int.pow_zero,Int.mul_one,show N+(Q-Q)*E=N by rw[Int.sub_self];omega];exact hv j
 |y+1,hy=>by
  have ih:=low_ok hs hE hN hQ ho ha hc hv hl y (by omega);by_cases cy:a<=y
  ·have hcy:=hc y cy (by omega)
   have e:lowV w F c (y+1) v=fun j=>lowV w F c y v j-lowV w F c y v (leadV w (F y)) / F y (leadV w (F y))*F y j:=by
    show(if c<leadV w (F y)then _ else _)=_;rw[if_pos hcy]
   rw[e];generalize lowV w F c y v=u at *;have hL:=hs.pos y (by omega);have hp:(2:Int) ^ (y+1-a)=2 ^ (y-a)*2:=by rw[show y+1-a=(y-a)+1 by omega,Int.pow_succ]
   obtain⟨R,eR⟩:∃R,R=Q*2 ^ (y-a):=⟨_,rfl⟩;have hR:0<=R:=by rw[eR];exact Int.mul_nonneg hQ (Int.le_of_lt (Int.pow_pos (by omega)))
   have hRQ:Q<=R:=by
    rw[eR];have h1:(1:Int)<=2 ^ (y-a):=Int.pow_pos (by omega);have:=Int.mul_le_mul_of_nonneg_left h1 hQ;omega
   have hR2:Q*2 ^ (y+1-a)=2*R:=by rw[hp,eR,<-Int.mul_assoc,Int.mul_comm]
   have hle:=ih.le;have hlead:=ih.lead;rw[<-eR]at hle hlead;have ht:=div_le hL (hlead y (Nat.le_refl _) cy (by omega)) hR;generalize hT:u (leadV w (F y)) / F y (leadV w (F y))=t at ht;refine⟨fun z h1 h2=>?_,fun z h0 h1 h2=>?_,fun j=>?_,fun j hj=>?_⟩
   ·by_cases ez:z=y
    ·subst ez
     show 0<=u (leadV w (F z))-t*F z (leadV w (F z))/\u (leadV w (F z))-t*F z (leadV w (F z))<F z (leadV w (F z));rw[<-hT];have q1:=Int.emod_nonneg (u (leadV w (F z))) (show F z (leadV w (F z))≠0 by omega);have q2:=Int.emod_lt_of_pos (u (leadV w (F z))) hL;have q3:=Int.emod_add_mul_ediv (u (leadV w (F z))) (F z (leadV w (F z)));rw[Int.mul_comm]at q3;omega
    ·show 0<=u (leadV w (F z))-t*F y (leadV w (F z))/\u (leadV w (F z))-t*F y (leadV w (F z))<F z (leadV w (F z))
     rw[leadV_zero (w:=w) (v:=F y) (hs.inc z y (by omega) (by omega)),Int.mul_zero,Int.sub_zero];exact ih.red z h1 (by omega)
   ·show(u (leadV w (F z))-t*F y (leadV w (F z))).natAbs<=_
    rw[hR2];have q1:=hlead z (by omega) h1 h2;have q2:=ho.red y z cy (by omega) h2;have q3:(t*F y (leadV w (F z))).natAbs<=(R*F z (leadV w (F z))).natAbs:=natAbs_mul_le ht (by omega) hR (by omega);have q4:0<=R*F z (leadV w (F z)):=Int.mul_nonneg hR (by omega);rw[Int.mul_assoc];omega
   ·show(u j-t*F y j).natAbs<=_
    rw[hR2];have q1:=hle j;have q3:(t*F y j).natAbs<=(R*E).natAbs:=natAbs_mul_le ht (ho.le y cy (by omega) j) hR hE;have q4:0<=R*E:=Int.mul_nonneg hR hE;have q5:0<=(R-Q)*E:=Int.mul_nonneg (by omega) hE;rw[show(2*R-Q)*E=(R-Q)*E+R*E by rw[<-Int.add_mul];congr 1;omega];omega
   ·show u j-t*F y j=v j
    rw[leadV_zero (w:=w) (v:=F y) (hj y cy (by omega)),Int.mul_zero,Int.sub_zero];exact ih.old j hj
  ·have e:lowV w F c (y+1) v=lowV w F c y v:=by
    show(if c<leadV w (F y)then _ else _)=_;rw[if_neg (by have:=ha y (by omega) (by omega);omega)]
   rw[e];have e0:y+1-a=y-a:=by omega
   exact⟨fun z h1 h2=>by omega,fun z h0 h1 h2=>by rw[e0];exact ih.lead z (by omega) h1 h2,fun j=>by rw[e0];exact ih.le j,ih.old⟩
theorem low_id{w k a c:Nat}{F:Nat->Vec}{v:Vec}(hs:Stp w k F)(ha:∀z,z<a->z<k->leadV w (F z)<=c)(hr:∀z,a<=z->z<k->0<=v (leadV w (F z))/\v (leadV w (F z))<F z (leadV w (F z))):∀y,y<=k->lowV w F c y v=v
 |0,_=>rfl
 |y+1,hy=>by
  have ih:=low_id hs ha hr y (by omega);show(if c<leadV w (F y)then(fun j=>lowV w F c y v j-lowV w F c y v (leadV w (F y)) / F y (leadV w (F y))*F y j)else lowV w F c y v)=v;rw[ih];split
  ·rename_i q
   have cy:a<=y:=by rcases Nat.lt_or_ge y a with r|r;have:=ha y r (by omega);omega;exact r
   obtain⟨h1,h2⟩:=hr y cy (by omega);rw[Int.ediv_eq_zero_of_lt h1 h2]
   funext j;omega
  ·rfl
theorem low_sp{w k:Nat}{F:Nat->Vec}{c r:Nat}{v:Vec}(hr:r<k):∀y,y<=k->(∀z,z<y->c<leadV w (F z)->z≠r)->Lat w k (put F r (lowV w F c y v)) (put F r v)
 |0,_,_=>.refl _ _ _
 |y+1,hy,hne=>by
  have ih:=low_sp (c:=c) (v:=v) hr y (by omega) (fun z hz=>hne z (by omega));by_cases q:c<leadV w (F y)
  ·have e:lowV w F c (y+1) v=fun j=>lowV w F c y v j-lowV w F c y v (leadV w (F y)) / F y (leadV w (F y))*F y j:=by
    show(if c<leadV w (F y)then _ else _)=_;rw[if_pos q]
   have ny:=hne y (by omega) q;have h:=Lat.sub (w:=w) (F:=put F r (lowV w F c y v)) (r:=r) (y:=y) hr (by omega) (fun e=>ny e.symm) (lowV w F c y v (leadV w (F y)) / F y (leadV w (F y)));rw[put_same,show put F r (lowV w F c y v) r=lowV w F c y v by unfold put;rw[if_pos rfl],show put F r (lowV w F c y v) y=F y by unfold put;rw[if_neg ny]]at h;rw[e];exact h.trans ih
  ·have e:lowV w F c (y+1) v=lowV w F c y v:=by
    show(if c<leadV w (F y)then _ else _)=_;rw[if_neg q]
   rw[e];exact ih
def LowOK(w:Nat)(F:Nat->Vec)(c k:Nat)(v:Vec):Prop:=∀y,y<k->c<leadV w (F y)->∀j,(lowV w F c y v j).natAbs<=9000000000000000000/\(lowV w F c y v (leadV w (F y)) / F y (leadV w (F y))*F y j).natAbs<=9000000000000000000/\(lowV w F c (y+1) v j).natAbs<=9000000000000000000
theorem low_safe{w k a c:Nat}{F:Nat->Vec}{E N Q:Int}{v:Vec}(hs:Stp w k F)(hE:0<=E)(hN:0<=N)(hQ:0<=Q)(ho:Old w k a F E)(ha:∀z,z<a->z<k->leadV w (F z)<=c)(hc:∀z,a<=z->z<k->c<leadV w (F z))
  (hv:∀j,(v j).natAbs<=N.natAbs) (hl:∀z,a<=z->z<k->(v (leadV w (F z))).natAbs<=(Q*F z (leadV w (F z))).natAbs) (hka:k-a<=3) (hb:N+7*(Q*E)<=9000000000000000000):LowOK w F c k v/\∀j,(lowV w F c k v j).natAbs<=(N+7*(Q*E)).natAbs:=by
 have all:=low_ok hs hE hN hQ ho ha hc hv hl;have hQE:0<=Q*E:=Int.mul_nonneg hQ hE;have pw:∀y,y<=k->Q<=Q*2 ^ (y-a)/\Q*2 ^ (y-a)<=8*Q:=fun y hy=>by
  have:y-a=0\/y-a=1\/y-a=2\/y-a=3:=by omega
  rcases this with q|q|q|q<;>rw[q]
  ·rw[Int.pow_zero];omega
  ·rw[show(2:Int) ^ 1=2 from rfl];omega
  ·rw[show(2:Int) ^ 2=4 from rfl];omega
  ·rw[show(2:Int) ^ 3=8 from rfl];omega
 have le:∀y,y<=k->∀j,(lowV w F c y v j).natAbs<=(N+7*(Q*E)).natAbs:=fun y hy j=>by
  have h1:=(all y hy).le j;obtain⟨h2,h3⟩:=pw y hy;have h4:=Int.mul_le_mul_of_nonneg_right (show Q*2 ^ (y-a)-Q<=7*Q by omega) hE;have h5:=Int.mul_nonneg (show 0<=Q*2 ^ (y-a)-Q by omega) hE;rw[Int.mul_assoc]at h4;omega
 refine⟨fun y hy hcy j=>?_,le k (Nat.le_refl _)⟩;have h1:=le y (by omega) j;have h2:=le (y+1) (by omega) j;refine⟨by omega,?_,by omega⟩;have cy:a<=y:=by rcases Nat.lt_or_ge y a with r|r;have:=ha y r hy;omega;exact r
 have L:=hs.pos y hy;have h6:=(all y (by omega)).lead y (Nat.le_refl _) cy hy;have h7:=div_le L h6 (by obtain⟨h2,h3⟩:=pw y (by omega);omega);have h8:=(pw y (by omega)).1;have h9:Q*2 ^ (y-a)<=4*Q:=by
  have:y-a=0\/y-a=1\/y-a=2:=by omega
  rcases this with q|q|q<;>rw[q]
  ·rw[Int.pow_zero];omega
  ·rw[show(2:Int) ^ 1=2 from rfl];omega
  ·rw[show(2:Int) ^ 2=4 from rfl];omega
 have h10:=natAbs_mul_le (A:=4*Q) (B:=E) (show(lowV w F c y v (leadV w (F y)) / F y (leadV w (F y))).natAbs<=_ by omega) (ho.le y cy hy j) (by omega) hE;rw[Int.mul_assoc]at h10;omega
end Go.Proofs.Ytdpbiegfljmhmaa.Ext
namespace Go.Proofs.Ytdpbiegfljmhmaa.Ext
def cb(a:Nat):Int:=3673320192*7 ^ a
theorem cb_succ(a:Nat):cb (a+1)=7*cb a:=by unfold cb;rw[Int.pow_succ];omega
theorem cb_pos(a:Nat):0<cb a:=by unfold cb;have:(0:Int)<7 ^ a:=Int.pow_pos (by omega);omega
theorem cb_mono{a b:Nat}(h:a<=b):cb a<=cb b:=by
 obtain⟨d,rfl⟩:∃d,b=a+d:=⟨b-a,by omega⟩;clear h
 induction d with
 |zero=>exact Int.le_refl _
 |succ d ih=>have:=cb_pos (a+d);rw[show a+(d+1)=a+d+1 by omega,cb_succ];omega
theorem cb3:cb 3=1259948825856:=by decide
theorem cb_le{a:Nat}(h:a<=3):cb a<=1259948825856:=by rw[<-cb3];exact cb_mono h
def Pt(f:Nat->Int):Nat->Nat->Int
 |_,0=>1
 |a,n+1=>f a*Pt f (a+1) n
theorem Pt_pos{f:Nat->Int}:∀(n a:Nat),(∀i,a<=i->i<a+n->0<f i)->0<Pt f a n
 |0,_,_=>by show(0:Int)<1;omega
 |n+1,a,h=>Int.mul_pos (h a (by omega) (by omega)) (Pt_pos n (a+1) (fun i h1 h2=>h i (by omega) (by omega)))
theorem Pt_congr{f g:Nat->Int}:∀(n a:Nat),(∀i,a<=i->i<a+n->f i=g i)->Pt f a n=Pt g a n
 |0,_,_=>rfl
 |n+1,a,h=>by show f a*Pt f (a+1) n=g a*Pt g (a+1) n;rw[h a (by omega) (by omega),Pt_congr n (a+1) (fun i h1 h2=>h i (by omega) (by omega))]
theorem mul_ge{x p:Int}(hx:0<=x)(hp:0<p):x<=x*p:=by
 have:=Int.mul_le_mul_of_nonneg_left (show(1:Int)<=p by omega) hx;omega
theorem Pt_drop{f:Nat->Int}{k:Nat}(h:∀i,i<k->0<f i):∀(d a:Nat),a+d<=k->Pt f (a+d) (k-(a+d))<=Pt f a (k-a)
 |0,a,_=>Int.le_refl _
 |d+1,a,hk=>by
  have ih:=Pt_drop h d (a+1) (by omega);rw[show a+(d+1)=a+1+d by omega];refine Int.le_trans ih ?_;rw[show k-a=(k-(a+1))+1 by omega];show _<=f a*Pt f (a+1) (k-(a+1));have p:=Pt_pos (f:=f) (k-(a+1)) (a+1) (fun i h1 h2=>h i (by omega));rw[Int.mul_comm];exact mul_ge (Int.le_of_lt p) (h a (by omega))
theorem Pt_end(f:Nat->Int):∀(n a:Nat),Pt f a (n+1)=Pt f a n*f (a+n)
 |0,a=>by show f a*1=1*f (a+0);rw[Nat.add_zero];omega
 |n+1,a=>by
  show f a*Pt f (a+1) (n+1)=f a*Pt f (a+1) n*f (a+(n+1));rw[Pt_end f n (a+1),show a+1+n=a+(n+1) by omega,Int.mul_assoc]
theorem Pt_prodL(f:Nat->Int):∀n,Pt f 0 n=prodL f n
 |0=>rfl
 |n+1=>by rw[Pt_end,Pt_prodL f n,Nat.zero_add];rfl
def ldF(w:Nat)(F:Nat->Vec):Nat->Int:=fun z=>F z (leadV w (F z))
theorem Stp.parts{w k:Nat}{F:Nat->Vec}(h:Stp w k F)(c:Nat):∃a,a<=k/\(∀y,y<a->leadV w (F y)<c)/\∀z,a<=z->z<k->c<=leadV w (F z):=by
 obtain⟨h1,h2,h3⟩:=h
 induction k with
 |zero=>exact⟨0,Nat.le_refl _,fun y hy=>by omega,fun z _ hz=>by omega⟩
 |succ k ih=>
  obtain⟨a,q1,q2,q3⟩:=ih (fun i hi=>h1 i (by omega)) (fun i hi=>h2 i (by omega)) (fun i j hi hj=>h3 i j hi (by omega));by_cases e:leadV w (F k)<c
  ·refine⟨k+1,Nat.le_refl _,fun y hy=>?_,fun z hz hk=>by omega⟩
   by_cases ey:y=k
   ·rw[ey];exact e
   ·have:=h3 y k (by omega) (by omega);omega
  ·refine⟨a,by omega,q2,fun z hz hk=>?_⟩
   by_cases ez:z=k
   ·rw[ez];omega
   ·exact q3 z hz (by omega)
structure Base(w k:Nat)(F:Nat->Vec)(v:Vec)(F0:Nat->Vec):Prop where
 stp:Stp w k F
 lat:Lat w (k+1) (put F k v) F0
 big:∀y,y<k->∀j,(F y j).natAbs<=(cb 3).natAbs
 k3:k<=3
 nz:∃d J I,(∀i,i<d->J i<w)/\prod d (rv (k+1) F0 J) (k+1) I≠0
theorem Base.lead{w k:Nat}{F:Nat->Vec}{v:Vec}{F0:Nat->Vec}(b:Base w k F v F0):leadV w v<w:=by
 obtain⟨d,J,I,h1,h2⟩:=b.nz;have:=b.lat.ne h1 h2 (r:=k) (by omega);rw[show put F k v k=v by unfold put;rw[if_pos rfl]]at this;exact this
structure FrI(w k a:Nat)(F:Nat->Vec)(v:Vec)(N Q:Int):Prop where
 ak:a<=k
 lo:∀y,y<a->leadV w (F y)<leadV w v
 hi:∀z,a<=z->z<k->leadV w v<=leadV w (F z)
 old:Old w k a F 13122
 n0:0<=N
 q1:1<=Q
 le:∀j,(v j).natAbs<=N.natAbs
 ld:∀z,a<=z->z<k->(v (leadV w (F z))).natAbs<=(Q*F z (leadV w (F z))).natAbs
 bud:(N+7*(Q*13122))*Pt (ldF w F) a (k-a)<=cb a
structure MdI(w k a:Nat)(F:Nat->Vec)(v:Vec)(n m:Int):Prop where
 ak:a<k
 lo:∀y,y<a->leadV w (F y)<leadV w v
 eq:leadV w (F a)=leadV w v
 old:Old w k (a+1) F 13122
 xy:F a (leadV w v)<v (leadV w v)
 rv:∀z,a<z->z<k->0<=v (leadV w (F z))/\v (leadV w (F z))<F z (leadV w (F z))
 rf:∀z,a<z->z<k->0<=F a (leadV w (F z))/\F a (leadV w (F z))<F z (leadV w (F z))
 vn:∀j,((v j).natAbs:Int)+91854<=n
 fm:∀j,((F a j).natAbs:Int)+91854<=m
 bud:(n*F a (leadV w v)+m*v (leadV w v))*Pt (ldF w F) (a+1) (k-(a+1))<=7*cb a
theorem put_at{F:Nat->Vec}{k:Nat}(v:Vec):put F k v k=v:=by unfold put;rw[if_pos rfl]
theorem put_ne{F:Nat->Vec}{k i:Nat}(v:Vec)(h:i≠k):put F k v i=F i:=by unfold put;rw[if_neg h]
theorem Base.low{w k:Nat}{F:Nat->Vec}{v:Vec}{F0:Nat->Vec}(b:Base w k F v F0)(c:Nat):Base w k F (lowV w F c k v) F0:=
 ⟨b.stp,by
  have h:=low_sp (w:=w) (k:=k+1) (F:=F) (c:=c) (v:=v) (r:=k) (by omega) k (by omega) (fun z hz _=>by omega);exact h.trans b.lat,b.big,b.k3,b.nz⟩
theorem Base.take{w k a:Nat}{F:Nat->Vec}{v:Vec}{F0:Nat->Vec}(b:Base w k F v F0)(ha:a<k)(q:Int):Base w k F (fun j=>v j-q*F a j) F0:=
 ⟨b.stp,by
  have h:=Lat.sub (w:=w) (k:=k+1) (F:=put F k v) (r:=k) (y:=a) (by omega) (by omega) (by omega) q;rw[put_same,put_at,put_ne v (by omega)]at h;exact h.trans b.lat,b.big,b.k3,b.nz⟩
theorem drop_ok{w k a:Nat}{F:Nat->Vec}{v:Vec}{F0:Nat->Vec}{N Q:Int}(b:Base w k F v F0)(ha:a<k)(ho:Old w k (a+1) F 13122)(hz:∀j,j<=leadV w (F a)->v j=0)(hN:0<=N)(hQ:1<=Q)(le:∀j,(v j).natAbs<=N.natAbs)
  (ld:∀z,a<z->z<k->(v (leadV w (F z))).natAbs<=(Q*F z (leadV w (F z))).natAbs) (bud:(N+7*(Q*13122))*Pt (ldF w F) (a+1) (k-(a+1))<=7*cb a):leadV w (F a)<leadV w v/\∃a',FrI w k a' F v N Q:=by
 have hc:leadV w (F a)<leadV w v:=by
  rcases Nat.lt_or_ge (leadV w (F a)) (leadV w v)with q|q
  ·exact q
  ·exact absurd (hz _ q) (leadV_ne b.lead)
 refine⟨hc,?_⟩;obtain⟨a',p1,p2,p3⟩:=b.stp.parts (leadV w v);have haa:a+1<=a':=by
  rcases Nat.lt_or_ge a a' with q|q
  ·exact q
  ·have:=p3 a q ha;omega
 have hL:∀i,i<k->0<ldF w F i:=fun i hi=>b.stp.pos i hi
 obtain⟨d,rfl⟩:∃d,a'=a+1+d:=⟨a'-(a+1),by omega⟩;have h1:=Pt_drop hL d (a+1) p1;have h2:0<=N+7*(Q*13122):=by omega
 have h3:=Int.mul_le_mul_of_nonneg_left h1 h2;have h4:=cb_mono (a:=a+1) (b:=a+1+d) (by omega);rw[cb_succ]at h4;exact⟨a+1+d,p1,p2,p3,ho.later (by omega),hN,hQ,le,fun z h1 h2=>ld z (by omega) h2,by omega⟩
theorem mid_ok{w k a:Nat}{F:Nat->Vec}{u:Vec}{F0:Nat->Vec}{n m:Int}(b:Base w k F u F0)(ha:a<k)(ho:Old w k (a+1) F 13122)(hz:∀j,j<leadV w (F a)->u j=0)(hx:0<u (leadV w (F a))/\u (leadV w (F a))<F a (leadV w (F a)))
  (ru:∀z,a<z->z<k->0<=u (leadV w (F z))/\u (leadV w (F z))<F z (leadV w (F z))) (rf:∀z,a<z->z<k->0<=F a (leadV w (F z))/\F a (leadV w (F z))<F z (leadV w (F z)))
  (un:∀j,((u j).natAbs:Int)+91854<=m) (fn:∀j,((F a j).natAbs:Int)+91854<=n) (hm:m<=cb 3)
  (bud:(n*u (leadV w (F a))+m*F a (leadV w (F a)))*Pt (ldF w F) (a+1) (k-(a+1))<=7*cb a):leadV w u=leadV w (F a)/\Base w k (put F a u) (F a) F0/\MdI w k a (put F a u) (F a) n m:=by
 have hlw:=b.stp.lt a ha;have hl:leadV w u=leadV w (F a):=leadV_eq (by omega) hz (fun _=>by omega);have hpa:=put_at (F:=F) (k:=a) u;have hpn:∀i,i≠a->put F a u i=F i:=fun i hi=>put_ne u hi
 have hle:∀i,leadV w (put F a u i)=leadV w (F i):=fun i=>by
  by_cases e:i=a
  ·rw[e,hpa,hl]
  ·rw[hpn i e]
 have hst:Stp w k (put F a u):=by
  refine⟨fun i hi=>by rw[hle];exact b.stp.lt i hi,fun i hi=>?_,fun i j h1 h2=>by rw[hle,hle];exact b.stp.inc i j h1 h2⟩;rw[hle];by_cases e:i=a
  ·rw[e,hpa];exact hx.1
  ·rw[hpn i e];exact b.stp.pos i hi
 have hpt:Pt (ldF w (put F a u)) (a+1) (k-(a+1))=Pt (ldF w F) (a+1) (k-(a+1)):=Pt_congr _ _ (fun i h1 h2=>by unfold ldF;rw[hpn i (by omega)]);refine⟨hl,⟨hst,?_,fun y hy j=>?_,b.k3,b.nz⟩,⟨ha,fun y hy=>?_,by rw[hpa];exact hl,⟨fun z h1 h2 j=>?_,fun y z h1 h2 h3=>?_⟩,?_,fun z h1 h2=>?_,fun z h1 h2=>?_,fn,fun j=>by rw[hpa];exact un j,?_⟩⟩
 ·have h:=Lat.swap (w:=w) (k:=k+1) (F:=put F k u) (a:=a) (b:=k) (by omega) (by omega)
  have e:swR (put F k u) a k=put (put F a u) k (F a):=by
   unfold swR;rw[put_at,put_ne u (by omega),put_put_ne (show k≠a by omega),put_same]
  rw[e]at h;exact h.trans b.lat
 ·by_cases e:y=a
  ·rw[e,hpa];have:=un j;have:=cb_pos 3;omega
  ·rw[hpn y e];exact b.big y hy j
 ·rw[hpn y (by omega)];exact b.stp.inc y a hy ha
 ·rw[hpn z (by omega)];exact ho.le z h1 h2 j
 ·rw[hpn y (by omega),hpn z (by omega)];exact ho.red y z h1 h2 h3
 ·rw[hpa];exact hx.2
 ·rw[hpn z (by omega)];exact rf z h1 h2
 ·rw[hpa,hpn z (by omega)];exact ru z h1 h2
 ·rw[hpa,hpt];exact bud
def Next(w k:Nat)(F0 F:Nat->Vec)(a:Nat)(u2:Vec):Prop:=
 (u2 (leadV w (F a))=0/\leadV w (F a)<leadV w u2/\Base w k F u2 F0/\∃a' N Q,FrI w k a' F u2 N Q) \/
 (u2 (leadV w (F a))≠0/\leadV w u2=leadV w (F a)/\LowOK w F (leadV w (F a)) k u2/\leadV w (lowV w F (leadV w (F a)) k u2)=leadV w (F a)/\lowV w F (leadV w (F a)) k u2 (leadV w (F a))<F a (leadV w (F a))/\Base w k (put F a (lowV w F (leadV w (F a)) k u2)) (F a) F0/\∃n m,MdI w k a (put F a (lowV w F (leadV w (F a)) k u2)) (F a) n m)
theorem fdiv_bounds{x y:Int}(hy:0<y):0<=x-x / y*y/\x-x / y*y<y:=by
 have q1:=Int.emod_nonneg x (show y≠0 by omega);have q2:=Int.emod_lt_of_pos x hy;have q3:=Int.emod_add_mul_ediv x y;rw[Int.mul_comm]at q3;omega
end Go.Proofs.Ytdpbiegfljmhmaa.Ext
