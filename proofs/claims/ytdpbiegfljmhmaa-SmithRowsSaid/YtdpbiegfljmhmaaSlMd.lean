import Derived.Test.YtdpbiegfljmhmaaSmE
import Derived.Test.YtdpbiegfljmhmaaSlPt
set_option linter.unusedSimpArgs false
set_option linter.unusedVariables false
namespace Go.Proofs.Ytdpbiegfljmhmaa.Ext
def iB(F:Nat->aJ)(a:Nat)(v:aJ):Nat->aJ:=fun y=>if y<a then F y else if y=a then v else F (y-1)
theorem s7{F:Nat->aJ}{a y:Nat}(v:aJ)(h:y<a):iB F a v y=F y:=by unfold iB;rw[if_pos h]
theorem xj{F:Nat->aJ}{a:Nat}(v:aJ):iB F a v a=v:=by unfold iB;rw[if_neg (by omega),if_pos rfl]
theorem xZ{F:Nat->aJ}{a y:Nat}(v:aJ)(h:a<y):iB F a v y=F (y-1):=by unfold iB;rw[if_neg (by omega),if_neg (by omega)]
theorem CV{w:Nat}{F:Nat->aJ}{v:aJ}:∀(d a k:Nat),a+d=k->jj w (k+1) (iB F a v) (put F k v)
 |0,a,k,h=>by
  obtain rfl:a=k:=by omega
  refine .of_eq (fun i hi=>?_);unfold put;by_cases c:i=a
  ·rw[if_pos c,c,xj]
  ·rw[if_neg c,s7 v (by omega)]
 |d+1,a,k,h=>by
  have ih:=CV (w:=w) (F:=F) (v:=v) d (a+1) k (by omega);have hs:=jj.swap (w:=w) (k:=k+1) (F:=iB F (a+1) v) (a:=a) (b:=a+1) (by omega) (by omega);refine jj.trans (.of_eq (fun i hi=>?_)) (hs.trans ih);show iB F a v i=if i=a+1 then iB F (a+1) v a else if i=a then iB F (a+1) v (a+1)else iB F (a+1) v i
  by_cases c1:i=a+1
  ·rw[if_pos c1,c1,xZ v (by omega),s7 v (by omega)];rfl
  ·rw[if_neg c1]
   by_cases c2:i=a
   ·rw[if_pos c2,c2,xj,xj]
   ·rw[if_neg c2]
    by_cases c3:i<a
    ·rw[s7 v c3,s7 v (by omega)]
    ·rw[xZ v (by omega),xZ v (by omega)]
structure pi(w K i:Nat)(F F0:Nat->aJ):Prop where
 stp:mH w K F
 lat:jj w K F F0
 big:∀y,y<K->∀j,(F y j).natAbs<=1259949000000
 red:∀y z,i<=y->y<z->z<K->0<=F y (aj w (F z))/\F y (aj w (F z))<F z (aj w (F z))
 k4:K<=4
 hM:∀i,i<K->∀j,(F0 i j).natAbs<=9
theorem I9{K:Nat}(h:K<=4):K*(pI K K*9 ^ K)<=629856:=by
 have:K=0\/K=1\/K=2\/K=3\/K=4:=by omega
 rcases this with rfl|rfl|rfl|rfl|rfl<;>decide
theorem mH.small{w K z:Nat}{F F0:Nat->aJ}(s:mH w K F)(l:jj w K F F0)(hM:∀i,i<K->∀j,(F0 i j).natAbs<=9)(k4:K<=4)(hz:z<K)(hr:∀m,z<m->m<K->0<=F z (aj w (F m))/\F z (aj w (F m))<F m (aj w (F m)))(j:Nat):(F z j).natAbs<=629856:=
 Nat.le_trans (jj.bound s l hM hz (fun m hm=>by
  rcases Nat.lt_trichotomy m z with q|q|q
  ·rw[aW (w:=w) (v:=F z) (s.inc m z q hz)];exact Nat.zero_le _
  ·rw[q];exact Nat.le_refl _
  ·have:=hr m q hm;omega) j) (I9 k4)
theorem pi.old{w K i:Nat}{F F0:Nat->aJ}(f:pi w K (i+1) F F0):B6 w K (i+1) F 629856:=
 ⟨fun z h1 h2 j=>f.stp.small f.lat f.hM f.k4 h2 (fun m q1 q2=>f.red z m h1 q1 q2) j,fun y z h1 h2 h3=>f.red y z h1 h2 h3⟩
theorem pi.step{w K i:Nat}{F F0:Nat->aJ}(f:pi w K (i+1) F F0)(hi:i<K):jD w F (aj w (F i)) K (F i)/\pi w K i (put F i (bm w F (aj w (F i)) K (F i))) F0:=by
 have ho:=f.old;have lo:∀z,z<i+1->z<K->aj w (F z)<=aj w (F i):=fun z z1 z2=>by
  by_cases e:z=i
  ·rw[e];omega
  ·have:=f.stp.inc z i (by omega) hi;omega
 have hic:∀z,i+1<=z->z<K->aj w (F i)<aj w (F z):=fun z z1 z2=>f.stp.inc i z (by omega) z2
 have hv:∀j,(F i j).natAbs<=(1259949000000:Int).natAbs:=fun j=>f.big i hi j
 have hl:∀z,i+1<=z->z<K->(F i (aj w (F z))).natAbs<=(1259949000000*F z (aj w (F z))).natAbs:=fun z z1 z2=>by
  have:=f.stp.pos z z2;have:=f.big i hi (aj w (F z));omega
 have k4:=f.k4;obtain⟨s1,_⟩:=nf f.stp (E:=629856) (N:=1259949000000) (Q:=1259949000000) (by omega) (by omega) (by omega) ho lo hic hv hl (by omega) (by omega);have s2:=oV f.stp (E:=629856) (N:=1259949000000) (Q:=1259949000000) (by omega) (by omega) (by omega) ho lo hic hv hl K (Nat.le_refl _);refine⟨s1,?_⟩;have hlat:=BD (w:=w) (k:=K) (F:=F) (c:=aj w (F i)) (v:=F i) hi K (Nat.le_refl _) (fun z _ hz e=>by rw[e]at hz;omega);rw[ig]at hlat;have e3:∀j,j<=aj w (F i)->bm w F (aj w (F i)) K (F i) j=F i j:=fun j hj=>s2.old j (fun z z1 z2=>by have:=hic z z1 z2;omega)
 have r3:=s2.red;generalize bm w F (aj w (F i)) K (F i)=u at *;have hpa:=eE (F:=F) (k:=i) u;have hpn:∀y,y≠i->put F i u y=F y:=fun y hy=>dS u hy
 have hlu:aj w u=aj w (F i):=gi (kX _ _) (fun j hj=>by rw[e3 j (by omega)];exact aW hj) (fun q=>by rw[e3 _ (Nat.le_refl _)];exact jB q);have hle:∀y,aj w (put F i u y)=aj w (F y):=fun y=>by
  by_cases e:y=i
  ·rw[e,hpa,hlu]
  ·rw[hpn y e]
 have hst:mH w K (put F i u):=⟨fun y hy=>by rw[hle];exact f.stp.lt y hy,fun y hy=>by
  rw[hle];by_cases e:y=i
  ·rw[e,hpa,e3 _ (Nat.le_refl _)];exact f.stp.pos i hi
  ·rw[hpn y e];exact f.stp.pos y hy,fun y z h1 h2=>by rw[hle,hle];exact f.stp.inc y z h1 h2⟩
 have hred:∀y z,i<=y->y<z->z<K->0<=put F i u y (aj w (put F i u z))/\put F i u y (aj w (put F i u z))<put F i u z (aj w (put F i u z)):=fun y z h1 h2 h3=>by
  rw[hle,hpn z (by omega)];by_cases e:y=i
  ·rw[e,hpa];exact r3 z (by omega) h3
  ·rw[hpn y e];exact f.red y z (by omega) h2 h3
 have hl2:=hlat.trans f.lat;refine⟨hst,hl2,fun y hy j=>?_,hred,f.k4,f.hM⟩;by_cases e:y=i
 ·have:=hst.small hl2 f.hM f.k4 hy (fun m q1 q2=>hred y m (by omega) q1 q2) j
  omega
 ·rw[hpn y e];exact f.big y hy j
theorem pi.hnf{w K:Nat}{F F0:Nat->aJ}(f:pi w K 0 F F0):Bv w K F:=⟨f.stp.lt,f.stp.pos,f.stp.inc,fun y z h1 h2=>f.red y z (Nat.zero_le _) h1 h2⟩
theorem Bv.small{w K:Nat}{F F0:Nat->aJ}(h:Bv w K F)(l:jj w K F F0)(hM:∀i,i<K->∀j,(F0 i j).natAbs<=9)(k4:K<=4){i:Nat}(hi:i<K)(j:Nat):(F i j).natAbs<=629856:=
 h.stp.small l hM k4 hi (fun m q1 q2=>h.red i m q1 q2) j
theorem tE{w k a:Nat}{F:Nat->aJ}{u:aJ}{F0:Nat->aJ}(b:gQ w k F u F0)(hM:∀i,i<k+1->∀j,(F0 i j).natAbs<=9)(ak:a<=k)(lo:∀y,y<a->aj w (F y)<aj w u)(hi:∀z,a<=z->z<k->aj w u<aj w (F z))(hp:0<u (aj w u))(hu:∀j,(u j).natAbs<=1259949000000):pi w (k+1) (k+1) (iB F a u) F0:=by
 have v1:∀y,y<a->iB F a u y=F y:=fun y hy=>s7 u hy
 have v2:iB F a u a=u:=xj u;have v3:∀y,a<y->iB F a u y=F (y-1):=fun y hy=>xZ u hy
 have cs:∀y,y<k+1->(y<a/\iB F a u y=F y)\/(y=a/\iB F a u y=u)\/(a<y/\iB F a u y=F (y-1)):=fun y hy=>by
  rcases Nat.lt_trichotomy y a with q|q|q
  ·exact .inl ⟨q,v1 y q⟩
  ·exact .inr (.inl ⟨q,by rw[q];exact v2⟩)
  ·exact .inr (.inr ⟨q,v3 y q⟩)
 have k3:=b.k3;have c3:=Ib;refine⟨⟨fun y hy=>?_,fun y hy=>?_,fun y z h1 h2=>?_⟩,(CV (k-a) a k (by omega)).trans b.lat,fun y hy j=>?_,fun y z h1 h2 h3=>by omega,by omega,hM⟩
 ·rcases cs y hy with ⟨q,e⟩|⟨q,e⟩|⟨q,e⟩<;>rw[e]
  ·exact b.stp.lt y (by omega)
  ·exact b.lead
  ·exact b.stp.lt (y-1) (by omega)
 ·rcases cs y hy with ⟨q,e⟩|⟨q,e⟩|⟨q,e⟩<;>rw[e]
  ·exact b.stp.pos y (by omega)
  ·exact hp
  ·exact b.stp.pos (y-1) (by omega)
 ·rcases cs y (by omega)with ⟨q,e⟩|⟨q,e⟩|⟨q,e⟩<;>rw[e]<;>rcases cs z h2 with ⟨q2,e2⟩|⟨q2,e2⟩|⟨q2,e2⟩<;>rw[e2]
  ·exact b.stp.inc y z h1 (by omega)
  ·exact lo y q
  ·rcases Nat.lt_or_ge y (z-1)with r|r
   ·exact b.stp.inc y (z-1) r (by omega)
   ·omega
  ·omega
  ·omega
  ·exact hi (z-1) (by omega) (by omega)
  ·omega
  ·omega
  ·exact b.stp.inc (y-1) (z-1) (by omega) (by omega)
 ·rcases cs y hy with ⟨q,e⟩|⟨q,e⟩|⟨q,e⟩<;>rw[e]
  ·have:=b.big y (by omega) j;omega
  ·exact hu j
  ·have:=b.big (y-1) (by omega) j;omega
theorem Kg{w k a:Nat}{F:Nat->aJ}{u:aJ}{F0:Nat->aJ}(b:gQ w k F u F0)(ak:a<=k)(ho:B6 w k a F 13122)(lo:∀y,y<a->aj w (F y)<aj w u)(hi:∀z,a<=z->z<k->aj w u<aj w (F z))(hn:u (aj w u)<0)(hu:∀j,(u j).natAbs<=(cb 3).natAbs)
  (ru:∀z,a<=z->z<k->0<=u (aj w (F z))/\u (aj w (F z))<F z (aj w (F z))) {v:aJ} (ev:v=fun j=>u j-2*u j):aj w v=aj w u/\jD w F (aj w u) k v/\gQ w k F (bm w F (aj w u) k v) F0/\aj w (bm w F (aj w u) k v)=aj w u/\0<bm w F (aj w u) k v (aj w u)/\∀j,(bm w F (aj w u) k v j).natAbs<=1259949000000:=by
 have hv:∀j,v j=-(u j):=fun j=>by rw[ev];show u j-2*u j=-(u j);omega
 have b1:gQ w k F v F0:=⟨b.stp,by
  have h:=jj.neg (w:=w) (k:=k+1) (F:=put F k u) (r:=k) (by omega);rw[gY,eE]at h;have e:(fun j=>-(u j))=v:=by funext j;rw[hv]
  rw[e]at h;exact h.trans b.lat,b.big,b.k3,b.nz⟩
 have hl:aj w v=aj w u:=gi (kX _ _) (fun j hj=>by rw[hv,aW hj];rfl) (fun q=>by rw[hv];have:=jB q;omega);have lo':∀z,z<a->z<k->aj w (F z)<=aj w u:=fun z z1 _=>Nat.le_of_lt (lo z z1)
 have hN:∀j,(v j).natAbs<=(1259948825856:Int).natAbs:=fun j=>by rw[hv];have:=hu j;have:=Ib;omega
 have hQ:∀z,a<=z->z<k->(v (aj w (F z))).natAbs<=(1*F z (aj w (F z))).natAbs:=fun z z1 z2=>by rw[hv];have:=ru z z1 z2;omega
 have k3:=b.k3;obtain⟨s1,s2⟩:=nf b.stp (E:=13122) (N:=1259948825856) (Q:=1) (by omega) (by omega) (by omega) ho lo' hi hN hQ (by omega) (by omega);have s3:=oV b.stp (E:=13122) (N:=1259948825856) (Q:=1) (by omega) (by omega) (by omega) ho lo' hi hN hQ k (Nat.le_refl _);have e3:∀j,j<=aj w u->bm w F (aj w u) k v j=v j:=fun j hj=>s3.old j (fun z z1 z2=>by have:=hi z z1 z2;omega)
 refine⟨hl,s1,b1.low _,gi (kX _ _) (fun j hj=>by rw[e3 j (by omega),hv,aW hj];rfl) (fun q=>by rw[e3 _ (Nat.le_refl _),hv];omega),by rw[e3 _ (Nat.le_refl _),hv];omega,fun j=>by have:=s2 j;omega⟩
theorem E9{w k:Nat}{F F0:Nat->aJ}(h:Bv w k F)(l:jj w k F F0)(hM:∀i,i<k+1->∀j,(F0 i j).natAbs<=9)(k3:k<=3)(nz:∃d J I,(∀i,i<d->J i<w)/\aX d (rv (k+1) F0 J) (k+1) I≠0):gQ w k F (F0 k) F0/\∃a,Et w k a F (F0 k) 9 9:=by
 have hk:k=0\/k=1\/k=2\/k=3:=by omega
 have hb1:k*(pI k k*9 ^ k)<=13122:=by rcases hk with rfl|rfl|rfl|rfl<;>decide
 have hb2:pI k k*9 ^ k<=4374:=by rcases hk with rfl|rfl|rfl|rfl<;>decide
 have hsm:∀z,z<k->∀j,(F z j).natAbs<=13122:=fun z hz j=>Nat.le_trans (jj.bound h.stp l (fun i hi=>hM i (by omega)) hz (fun m hm=>by
  rcases Nat.lt_trichotomy m z with q|q|q
  ·rw[aW (w:=w) (v:=F z) (h.inc m z q hz)];exact Nat.zero_le _
  ·rw[q];exact Nat.le_refl _
  ·have:=h.red z m q hm;omega) j) hb1
 have hD:=jj.leads h.stp l (fun i hi=>hM i (by omega));have c3:=Ib;have b:gQ w k F (F0 k) F0:=⟨h.stp,by
  have:=l.more (F0 k);rw[ig]at this;exact this,fun y hy j=>by have:=hsm y hy j;omega,k3,nz⟩
 refine⟨b,?_⟩;obtain⟨a,p1,p2,p3⟩:=h.stp.parts (aj w (F0 k));refine⟨a,p1,p2,p3,⟨fun z _ hz j=>hsm z hz j,fun y z _ h2 h3=>h.red y z h2 h3⟩,by omega,by omega,fun j=>hM k (by omega) j,fun z _ hz=>?_,?_⟩
 ·have:=h.pos z hz
  have:=hM k (by omega) (aj w (F z));omega
 ·have q1:=xO (f:=uq w F) (k:=k) (fun i hi=>h.pos i hi) a 0 (by omega)
  rw[Nat.zero_add,Nat.sub_zero,yO]at q1;have q2:d7 (uq w F) k<=4374:=by
   have hD':d7 (uq w F) k<=((pI k k*9 ^ k:Nat):Int):=hD;omega
  have q3:=Int.mul_le_mul_of_nonneg_left (show Pt (uq w F) a (k-a)<=4374 by omega) (show(0:Int)<=9+7*(9*13122) by omega);have q4:=qA (a:=0) (b:=a) (by omega);have q5:cb 0=3673320192:=by decide
  omega
theorem jG{w k c:Nat}{F G:Nat->aJ}{v:aJ}(e:∀z,z<k->G z=F z):∀y,y<=k->bm w G c y v=bm w F c y v
 |0,_=>rfl
 |y+1,hy=>by
  show(if c<aj w (G y)then(fun j=>bm w G c y v j-bm w G c y v (aj w (G y)) / G y (aj w (G y))*G y j)else bm w G c y v)=_;rw[e y (by omega),jG e y (by omega)];rfl
theorem jD.congr{w k c:Nat}{F G:Nat->aJ}{v:aJ}(e:∀z,z<k->G z=F z)(h:jD w F c k v):jD w G c k v:=fun y hy hc j=>by
 rw[e y hy]at hc ⊢;rw[jG e y (by omega),jG e (y+1) (by omega)];exact h y hy hc j
theorem mH.congr{w k:Nat}{F G:Nat->aJ}(e:∀z,z<k->G z=F z)(h:mH w k F):mH w k G:=
 ⟨fun i hi=>by rw[e i hi];exact h.lt i hi,fun i hi=>by rw[e i hi];exact h.pos i hi,fun i j hi hj=>by rw[e i (by omega),e j hj];exact h.inc i j hi hj⟩
theorem B6.congr{w k a:Nat}{F G:Nat->aJ}{E:Int}(e:∀z,z<k->G z=F z)(h:B6 w k a F E):B6 w k a G E:=
 ⟨fun z h1 h2 j=>by rw[e z h2];exact h.le z h1 h2 j,fun y z h1 h2 h3=>by rw[e y (by omega),e z h3];exact h.red y z h1 h2 h3⟩
theorem gQ.congr{w k:Nat}{F G F0:Nat->aJ}{v:aJ}(e:∀z,z<k->G z=F z)(b:gQ w k F v F0):gQ w k G v F0:=
 ⟨b.stp.congr e,(jj.of_eq (fun i hi=>by unfold put;split;rfl;exact e i (by omega))).trans b.lat,fun y hy j=>by rw[e y hy];exact b.big y hy j,b.k3,b.nz⟩
theorem v7{w k a:Nat}{F G:Nat->aJ}(e:∀z,z<k->G z=F z)(ha:a<=k):Pt (uq w G) a (k-a)=Pt (uq w F) a (k-a):=
 tc _ _ (fun i h1 h2=>by unfold uq;rw[e i (by omega)])
theorem Et.congr{w k a:Nat}{F G:Nat->aJ}{v:aJ}{N Q:Int}(e:∀z,z<k->G z=F z)(h:Et w k a F v N Q):Et w k a G v N Q:=
 ⟨h.ak,fun y hy=>by rw[e y (by have:=h.ak;omega)];exact h.lo y hy,fun z h1 h2=>by rw[e z h2];exact h.hi z h1 h2,h.old.congr e,h.n0,h.q1,h.le,fun z h1 h2=>by rw[e z h2];exact h.ld z h1 h2,by rw[v7 e h.ak];exact h.bud⟩
theorem FQ.congr{w k a:Nat}{F G:Nat->aJ}{v:aJ}{n m:Int}(e:∀z,z<k->G z=F z)(h:FQ w k a F v n m):FQ w k a G v n m:=
 ⟨h.ak,fun y hy=>by rw[e y (by have:=h.ak;omega)];exact h.lo y hy,by rw[e a h.ak];exact h.eq,h.old.congr e,by rw[e a h.ak];exact h.xy,fun z h1 h2=>by rw[e z h2];exact h.rv z h1 h2,fun z h1 h2=>by rw[e z h2,e a h.ak];exact h.rf z h1 h2,h.vn,fun j=>by rw[e a h.ak];exact h.fm j,by rw[v7 e (by have:=h.ak;omega),e a h.ak];exact h.bud⟩
structure AD(w k:Nat)(A F0:Nat->aJ)(D M:Nat):Prop where
 base:gQ w k A (A k) F0
 st:(∃a N Q,Et w k a A (A k) N Q)\/(∃a n m,FQ w k a A (A k) n m)
 m0:w-aj w (A k)<=D
 m1:∀a,a<k->aj w (A a)=aj w (A k)->(A a (aj w (A k))).toNat<=M
theorem AD.low{w k D M:Nat}{A F0:Nat->aJ}(r:AD w k A F0 D M):jD w A (aj w (A k)) k (A k)/\gQ w k A (bm w A (aj w (A k)) k (A k)) F0:=by
 refine⟨?_,r.base.low _⟩;rcases r.st with ⟨a,N,Q,h⟩|⟨a,n,m,h⟩
 ·exact(h.low r.base).1
 ·exact(h.low r.base).2
def Jn(w k:Nat)(A F0:Nat->aJ)(a:Nat)(u2:aJ)(D M:Nat):Prop:=
 (u2 (aj w (A a))=0/\∃D' M',D'<D/\AD w k (put A k u2) F0 D' M') \/
 (u2 (aj w (A a))≠0/\aj w u2=aj w (A a)/\jD w A (aj w (A a)) k u2/\aj w (bm w A (aj w (A a)) k u2)=aj w (A a)/\∃M',M'<M/\AD w k (put (put A a (bm w A (aj w (A a)) k u2)) k (A a)) F0 D M')
theorem AD.next{w k a D M:Nat}{A F0:Nat->aJ}{u2:aJ}(ha:a<k)(he:aj w (A a)=aj w (A k))(hD:w-aj w (A a)<=D)(hM:(A a (aj w (A a))).toNat<=M)(n:Next w k F0 A a u2):Jn w k A F0 a u2 D M:=by
 rcases n with ⟨n1,n2,b,a',N,Q,f⟩|⟨n1,n2,n3,n4,n5,b,n',m',f⟩
 ·have hk:put A k u2 k=u2:=eE u2
  have e:∀z,z<k->put A k u2 z=A z:=fun z hz=>dS u2 (by omega)
  have bl:=b.lead;refine .inl ⟨n1,w-aj w u2,(cb 3).toNat,by omega,by rw[hk];exact b.congr e,.inl ⟨a',N,Q,by rw[hk];exact f.congr e⟩,by rw[hk];exact Nat.le_refl _,fun z hz _=>?_⟩;rw[hk,e z hz];have:=b.big z hz (aj w u2);have c3:=Ib;omega
 ·have h0:=b.stp.pos a ha
  rw[eE,n4]at h0;refine .inr ⟨n1,n2,n3,n4,(bm w A (aj w (A a)) k u2 (aj w (A a))).toNat,by omega,?_⟩;generalize bm w A (aj w (A a)) k u2=u at *;have hk:put (put A a u) k (A a) k=A a:=eE _;have e:∀z,z<k->put (put A a u) k (A a) z=put A a u z:=fun z hz=>dS _ (by omega)
  have ea:put A a u a=u:=eE u;refine⟨by rw[hk];exact b.congr e,.inr ⟨a,n',m',by rw[hk];exact f.congr e⟩,by rw[hk];omega,fun z hz hle=>?_⟩;rw[hk,e z hz]at hle ⊢;by_cases c:z=a
  ·rw[c,ea];exact Nat.le_refl _
  ·exfalso
   rw[dS u c]at hle;have h1:=b.stp.inc;rcases Nat.lt_or_gt_of_ne c with q|q
   ·have:=h1 z a q ha;rw[dS u c,ea,n4]at this;omega
   ·have:=h1 a z q hz;rw[dS u c,ea,n4]at this;omega
theorem AD.step{w k a D M:Nat}{A F0:Nat->aJ}(r:AD w k A F0 D M)(ha:a<k)(he:aj w (A a)=aj w (A k)){u u2:aJ}(eu:u=bm w A (aj w (A k)) k (A k)){q:Int}(eq:q=u (aj w (A k)) / A a (aj w (A k)))(e2:u2=fun j=>u j-q*A a j) :
  (∀j,(u j).natAbs<=9000000000000000000/\(q*A a j).natAbs<=9000000000000000000/\(u j-q*A a j).natAbs<=9000000000000000000)/\Jn w k A F0 a u2 D M:=by
 have hM:=r.m1 a ha he;have hD:=r.m0;rw[<-he]at hM hD;have b:=r.base;have k3:=b.k3;have c3:=Ib;rcases r.st with ⟨a0,N,Q,h⟩|⟨a0,n,m,h⟩
 ·have ea:a0=a:=by
   rcases Nat.lt_trichotomy a0 a with c|c|c
   ·have:=h.hi a0 (Nat.le_refl _) (by omega);have:=b.stp.inc a0 a c ha;omega
   ·exact c
   ·have:=h.lo a c;omega
  subst ea;obtain⟨s1,s2⟩:=I4 b h ha he eu eq;rw[<-e2]at s2;have l2:=(h.low b).2.1;rw[<-eu]at l2;have ht:=h.top b;have hc:=wI (a:=a0) (by omega);have hn:=h.n0;have hq:=h.q1;exact⟨fun j=>⟨by have:=l2 j;omega,(s1 j).1,(s1 j).2⟩,AD.next ha he hD hM s2⟩
 ·have ea:a0=a:=HW (p:=fun i=>aj w (A i)) b.stp.inc h.ak ha (by show aj w (A a0)=aj w (A a);rw[h.eq,he])
  subst ea;have hid:=(h.low b).1 k (Nat.le_refl _);rw[hid]at eu;subst eu;obtain⟨s1,s2⟩:=HY b h eq;rw[<-e2]at s2;have hv:∀j,(A k j).natAbs<=9000000000000000000:=fun j=>by
   have h1:=h.vn j;have hP:=pe (f:=uq w A) (k-(a0+1)) (a0+1) (fun i h1 h2=>b.stp.pos i (by omega));have hy0:=h.y0 b;have hx:=h.xy;have hn:0<=n:=by have:=h.vn 0;omega
   have hm:0<=m:=by have:=h.fm 0;omega
   have b1:=h.bud;have b2:0<=n*A a0 (aj w (A k)):=Int.mul_nonneg hn (by omega);have b3:0<=m*A k (aj w (A k)):=Int.mul_nonneg hm (by omega);have b4:=kq (show 0<=n*A a0 (aj w (A k))+m*A k (aj w (A k)) by omega) hP;have b5:=kq hn hy0;have b6:=wI (a:=a0) (by omega);omega
  exact⟨fun j=>⟨hv j,(s1 j).1,(s1 j).2⟩,AD.next ha he hD hM s2⟩
theorem AD.own{w k a D M:Nat}{A F0:Nat->aJ}(r:AD w k A F0 D M)(hM:∀i,i<k+1->∀j,(F0 i j).natAbs<=9)(ak:a<=k)(lo:∀y,y<a->aj w (A y)<aj w (A k))(hi:∀z,a<=z->z<k->aj w (A k)<aj w (A z)){u:aJ}(eu:u=bm w A (aj w (A k)) k (A k)) :
  aj w u=aj w (A k)/\(∀j,(u j).natAbs<=1259948825856)/\(0<u (aj w (A k))->pi w (k+1) (k+1) (iB A a u) F0) /\
  (u (aj w (A k))<0->∀v,v=(fun j=>u j-2*u j)->aj w v=aj w (A k)/\jD w A (aj w (A k)) k v/\pi w (k+1) (k+1) (iB A a (bm w A (aj w (A k)) k v)) F0):=by
 have b:=r.base;have bu:=b.low (aj w (A k));have k3:=b.k3;have c3:=Ib;obtain⟨a0,N,Q,h⟩:∃a N Q,Et w k a A (A k) N Q:=by
  rcases r.st with h|⟨a0,n,m,h⟩
  ·exact h
  ·exfalso
   have:=h.eq;rcases Nat.lt_or_ge a0 a with c|c
   ·have:=lo a0 c;omega
   ·have:=hi a0 c h.ak;omega
 have ea:a0=a:=by
  rcases Nat.lt_trichotomy a0 a with c|c|c
  ·have:=h.hi a0 (Nat.le_refl _) (by omega);have:=lo a0 c;omega
  ·exact c
  ·have:=h.lo a c;have:=hi a (Nat.le_refl _) (by have:=h.ak;omega);omega
 subst ea;obtain⟨_,l2,l3,l4⟩:=h.low b;rw[<-eu]at l2 l3 l4 bu;have ht:=h.top b;have hc:=wI (a:=a0) (by omega);have hn:=h.n0;have hq:=h.q1;have hu:∀j,(u j).natAbs<=1259948825856:=fun j=>by have:=l2 j;omega
 have hl:aj w u=aj w (A k):=gi (kX _ _) (fun j hj=>by rw[l3 j (by omega)];exact aW hj) (fun q=>by rw[l3 _ (Nat.le_refl _)];exact jB q);refine⟨hl,hu,fun hp=>tE bu hM ak (fun y hy=>by rw[hl];exact lo y hy) (fun z z1 z2=>by rw[hl];exact hi z z1 z2) (by rw[hl];exact hp) (fun j=>by have:=hu j;omega),fun hneg v ev=>?_⟩;obtain⟨n1,n2,n3,n4,n5,n6⟩:=Kg bu ak h.old (fun y hy=>by rw[hl];exact lo y hy) (fun z z1 z2=>by rw[hl];exact hi z z1 z2) (by rw[hl];exact hneg) (fun j=>by have:=hu j;omega) (fun z z1 z2=>l4 z z1 z2 (hi z z1 z2)) ev;rw[hl]at n1 n2 n3 n4 n5 n6;exact⟨n1,n2,tE n3 hM ak (fun y hy=>by rw[n4];exact lo y hy) (fun z z1 z2=>by rw[n4];exact hi z z1 z2) (by rw[n4];exact n5) n6⟩
theorem AD.start{w k:Nat}{A F0:Nat->aJ}(h:Bv w k A)(l:jj w k A F0)(hM:∀i,i<k+1->∀j,(F0 i j).natAbs<=9)(k3:k<=3)(nz:∃d J I,(∀i,i<d->J i<w)/\aX d (rv (k+1) F0 J) (k+1) I≠0)(hk:A k=F0 k):∃D M,AD w k A F0 D M:=by
 obtain⟨b,a,f⟩:=E9 h l hM k3 nz;rw[<-hk]at b f;refine⟨w-aj w (A k),(cb 3).toNat,b,.inl ⟨a,9,9,f⟩,Nat.le_refl _,fun z hz _=>?_⟩;have:=b.big z hz (aj w (A k));have c3:=Ib;omega
end Go.Proofs.Ytdpbiegfljmhmaa.Ext
namespace Go.Proofs.Ytdpbiegfljmhmaa
open Go.Sim
set_option maxRecDepth 100000
structure jJ{α:Type}[Inhabited α](le:α->α->Prop)(L:List α)(a b i j:Int):Prop where
 i0:a<i
 j1:j<b
 ij:i<=j+1
 low:∀p:Int,a<p->p<i->le (gt L p) (gt L a)
theorem jJ.left{α:Type}[Inhabited α]{le:α->α->Prop}{L:List α}{a b i j:Int}(h:jJ le L a b i j)(c:i<=j)(w:le (gt L i) (gt L a)):jJ le L a b (i+1) j:=
 ⟨by have:=h.i0;omega,h.j1,by omega,fun p p0 p1=>by
  by_cases e:p=i
  ·rw[e];exact w
  ·exact h.low p p0 (by omega)⟩
theorem jJ.right{α:Type}[Inhabited α]{le:α->α->Prop}{L:List α}{a b i j:Int}(h:jJ le L a b i j)(c:i<=j):jJ le L a b i (j-1):=⟨h.i0,by have:=h.j1;omega,by omega,h.low⟩
theorem jJ.swap{α:Type}[Inhabited α]{le:α->α->Prop}{L:List α}{a b i j:Int}(a0:0<=a)(hb:b<=L.length)(h:jJ le L a b i j)(c:i<j)(w:le (gt L j) (gt L a)):jJ le (cV L i j) a b (i+1) (j-1):=by
 have hi:=h.i0;have hj:=h.j1;have g:∀k:Int,0<=k->gt (cV L i j) k=if k=j then gt L i else if k=i then gt L j else gt L k:=fun k k0=>gW L (by omega) (by omega) (by omega) (by omega) k0
 refine⟨by omega,by omega,by omega,fun p p0 p1=>?_⟩;rw[g p (by omega),g a a0,if_neg (show ¬p=j by omega),if_neg (show ¬a=j by omega),if_neg (show ¬a=i by omega)];by_cases e:p=i
 ·rw[if_pos e];exact w
 ·rw[if_neg e];exact h.low p p0 (by omega)
structure sW(h0 h:af)(b sb:Nat)(v:Value):Prop where
 own:bG h sb 1 [v]
 lt:sb<h.next
 old:h0.next<=sb
 ne:sb≠b
theorem sW.more{h0 h h':af}{b sb:Nat}{v:Value}(t:sW h0 h b sb v)(e:Ext h h'):sW h0 h' b sb v:=⟨t.own.ext e t.lt,Nat.lt_of_lt_of_le t.lt e.next,t.old,t.ne⟩
theorem sW.put{h0 h:af}{b sb n:Nat}{v:Value}{L:List LE}(t:sW h0 h b sb v)(d:aV h0 h b n L)(w:Value):∃h',h.write sb 0 [w]=some h'/\sW h0 h' b sb w/\aV h0 h' b n L:=by
 obtain⟨h',w1,w2,w3⟩:=t.own.write (o:=0) (vs:=[w]) (by simp);exact⟨h',w1,⟨w2,by rw[w3.next];exact t.lt,t.old,t.ne⟩,⟨w3.ext d.ext t.old,w3.own d.own (Ne.symm t.ne),d.old,by rw[w3.next];exact d.lt,d.len,d.base,d.ok,d.few⟩⟩
variable{F:aM}{call head arith b0 c0 d0 e0 f0 neg g0 l0 o0 q0 r0 s0 nz t0 rd wr push next u0 v0 w0 x0 z0 d1 f1 g1 l1 r1 u1 y1 d2 fresh lowered bump o2 y2 lt ne d3 f3 g3 yn i3 o3 u3 x3 y3 z3:_}(hA:AP F ⟨call,head,arith,b0,c0,d0,e0,f0,neg,g0,l0,o0,q0,r0,s0,nz,t0,rd,wr,push,next,u0,v0,w0,x0,z0,d1,f1,g1,l1,r1,u1,y1,d2,fresh,lowered,bump,o2,y2,lt,ne,d3,f3,g3,yn,i3,o3,u3,x3,y3,z3⟩)
include hA
theorem Jv{h0:af}(hlow:h0.low<=h0.next){b n c:Nat}{L:List LE}{A B j s:Int}(a0:0<=A)(bn:B<=n){Q:Exit->SS->Prop}
  (hQ:∀h' i,s<=i->aV h0 h' b n L->jJ fu L A B i j->(i<=j->¬fu (gt L i) (gt L A))->Q (.exit 2) ⟨[(0,.slice (some ⟨b,0,none⟩) n c),(1,.int .i64 A),(4,.func (.func 70) #[] #[]),(11,.int .i64 i),(12,.int .i64 j)],33,[],h'⟩) :
  ∀(m:Nat) (i:Int) (h:af),(j+1-i).toNat<=m->s<=i->aV h0 h b n L->jJ fu L A B i j->
   head 107 3 16 ⟨[(0,.slice (some ⟨b,0,none⟩) n c),(1,.int .i64 A),(4,.func (.func 70) #[] #[]),(11,.int .i64 i),(12,.int .i64 j)],16,[],h⟩ Q:=by
 intro m
 induction m with
 |zero=>
  intro i h hm hs t hp;refine hA.roundR Try.func107 r107_ok (zc ?_);refine br (i<=j) (by rw[iw hA]) (fun q=>by omega) (fun q=>?_)<;>refine zc ?_;exact hQ _ i hs (t.more (aq hA _ _)) hp (fun w=>absurd w q)
 |succ m ih=>
  intro i h hm hs t hp;have few:=t.few;have p1:=hp.i0;have p2:=hp.j1;refine hA.roundR Try.func107 r107_ok (zc ?_);refine br (i<=j) (by rw[iw hA]) (fun ci=>?_) (fun q=>?_)<;>refine zc ?_
  rotate_left
  ·exact hQ _ i hs (t.more (aq hA _ _)) hp (fun w=>absurd w q)
  obtain⟨h2,hh2⟩:∃z,z=bump h 17:=⟨_,rfl⟩;have x2:Ext h h2:=by rw[hh2];exact aq hA _ _
  have t2:=t.more x2;obtain⟨a2x,a2y,a2z,b2,g2,f2,r2⟩:=t2.read (i:=A) (by omega) (by omega);obtain⟨a2'x,a2'y,a2'z,b2',g2',f2',r2'⟩:=t2.read (i:=i) (by omega) (by omega);have q2:=az hA r2;have q2':=az hA r2';rw[<-hh2];have e1:arith .add .i64 i 1=i+1:=aB hA (by omega) (by omega);refine zq ?_;refine dH hA (aw hA h2) (cW hA f2) (cW hA f2') (fun u h2a hu x2a=>⟨_,rfl,?_⟩);have t2b:=de hA hlow t2 x2a;refine zc ?_;generalize lowered h2 h2a=h2b at *;refine br (0<=u) (by rw[cI hA,au hA];by_cases z:u<0<;>simp[z]<;>omega) (fun cu=>?_) (fun cu=>?_)<;>refine zc ?_
  ·rw[hu]at cu
   rw[e1];exact ih (i+1) h2b (by omega) (by omega) t2b (hp.left ci (LL.not_lt.1 (fun w=>by have:=bZ.2 w;omega)))
  ·rw[hu]at cu
   exact hQ h2b i hs t2b hp (fun _=>LL.not_le.2 (bZ.1 (show dU (gt L A).q (gt L i).q<0 by omega)))
theorem CN{h0:af}(hlow:h0.low<=h0.next){b n c:Nat}{L:List LE}{A B i s:Int}(a0:0<=A)(bn:B<=n){Q:Exit->SS->Prop}
  (hQ:∀h' j,j<=s->aV h0 h' b n L->jJ fu L A B i j->(i<=j->fu (gt L j) (gt L A))->Q (.exit 4) ⟨[(0,.slice (some ⟨b,0,none⟩) n c),(1,.int .i64 A),(4,.func (.func 70) #[] #[]),(11,.int .i64 i),(12,.int .i64 j)],49,[],h'⟩) :
  ∀(m:Nat) (j:Int) (h:af),(j+1-i).toNat<=m->j<=s->aV h0 h b n L->jJ fu L A B i j->
   head 107 5 33 ⟨[(0,.slice (some ⟨b,0,none⟩) n c),(1,.int .i64 A),(4,.func (.func 70) #[] #[]),(11,.int .i64 i),(12,.int .i64 j)],33,[],h⟩ Q:=by
 intro m
 induction m with
 |zero=>
  intro j h hm hs t hp;refine hA.roundR Try.func107 r107_ok (zc ?_);refine br (i<=j) (by rw[iw hA]) (fun q=>by omega) (fun q=>?_)<;>refine zc ?_;exact hQ _ j hs (t.more (aq hA _ _)) hp (fun w=>absurd w q)
 |succ m ih=>
  intro j h hm hs t hp;have few:=t.few;have p1:=hp.i0;have p2:=hp.j1;refine hA.roundR Try.func107 r107_ok (zc ?_);refine br (i<=j) (by rw[iw hA]) (fun ci=>?_) (fun q=>?_)<;>refine zc ?_
  rotate_left
  ·exact hQ _ j hs (t.more (aq hA _ _)) hp (fun w=>absurd w q)
  obtain⟨h2,hh2⟩:∃z,z=bump h 16:=⟨_,rfl⟩;have x2:Ext h h2:=by rw[hh2];exact aq hA _ _
  have t2:=t.more x2;obtain⟨a2x,a2y,a2z,b2,g2,f2,r2⟩:=t2.read (i:=A) (by omega) (by omega);obtain⟨a2'x,a2'y,a2'z,b2',g2',f2',r2'⟩:=t2.read (i:=j) (by omega) (by omega);have q2:=az hA r2;have q2':=az hA r2';rw[<-hh2];have e1:arith .sub .i64 j 1=j-1:=bD hA (by omega) (by omega);refine zq ?_;refine dH hA (aw hA h2) (cW hA f2) (cW hA f2') (fun u h2a hu x2a=>⟨_,rfl,?_⟩);have t2b:=de hA hlow t2 x2a;refine zc ?_;generalize lowered h2 h2a=h2b at *;refine br (u<0) (by rw[au hA]) (fun cu=>?_) (fun cu=>?_)<;>refine zc ?_
  ·rw[e1]
   exact ih (j-1) h2b (by omega) (by omega) t2b (hp.right ci)
  ·rw[hu]at cu
   exact hQ h2b j hs t2b hp (fun _=>LL.not_lt.1 (fun w=>cu (bZ.2 w)))
theorem Iv{h0:af}(hlow:h0.low<=h0.next){b n c:Nat}{L0:List LE}{A B:Int}(a0:0<=A)(bn:B<=n){v:LE}{Q:Exit->SS->Prop}
  (hQ:∀h' L i e,aV h0 h' b n L->aD A B L0 L->A<i->i<=B->(∀p:Int,A<=p->p<i->fu (gt L p) v)->Q (.exit 0) ⟨(11,.int .i64 i) :: e,49,[],h'⟩) :
  ∀(m:Nat) (i j:Int) (h:af) (L:List LE),(j+1-i).toNat<=m->aV h0 h b n L->aD A B L0 L->jJ fu L A B i j->gt L A=v->
   head 107 1003 16 ⟨[(0,.slice (some ⟨b,0,none⟩) n c),(1,.int .i64 A),(4,.func (.func 70) #[] #[]),(11,.int .i64 i),(12,.int .i64 j)],16,[],h⟩ Q:=by
 intro m;have fin:∀(h:af) (L:List LE) (i j:Int),aV h0 h b n L->aD A B L0 L->jJ fu L A B i j->gt L A=v->j<i->Q (.exit 0) ⟨[(11,.int .i64 i)],49,[],h⟩:=fun h L i j t hp hI hv c=>by
  have k1:=hI.i0;have k2:=hI.j1;have k3:=hI.ij;refine hQ h L i _ t hp k1 (by omega) (fun p p0 p1=>?_);by_cases e:p=A
  ·rw[e,hv];exact dn.refl _
  ·rw[<-hv];exact hI.low p (by omega) p1
 induction m with
 |zero=>
  intro i j h L hm t hp hI hv;refine hA.roundR Try.func107 r107_ok (zc ?_);refine Jv hA hlow a0 bn (s:=i) (fun h1 i1 s1 t1 hI1 w1=>?_) (j+1-i).toNat i h (Nat.le_refl _) (Int.le_refl _) t hI;refine zc ?_;refine CN hA hlow a0 bn (s:=j) (fun h2 j2 s2 t2 hI2 w2=>?_) (j+1-i1).toNat j h1 (Nat.le_refl _) (Int.le_refl _) t1 hI1;refine zc ?_;refine br (j2<i1) (by rw[dc hA]) (fun _=>?_) (fun q=>by omega)<;>refine zc ?_;exact fin h2 L i1 j2 t2 hp hI2 hv (by omega)
 |succ m ih=>
  intro i j h L hm t hp hI hv;have few:=t.few;refine hA.roundR Try.func107 r107_ok (zc ?_);refine Jv hA hlow a0 bn (s:=i) (fun h1 i1 s1 t1 hI1 w1=>?_) (j+1-i).toNat i h (Nat.le_refl _) (Int.le_refl _) t hI;refine zc ?_;refine CN hA hlow a0 bn (s:=j) (fun h2 j2 s2 t2 hI2 w2=>?_) (j+1-i1).toNat j h1 (Nat.le_refl _) (Int.le_refl _) t1 hI1;refine zc ?_;refine br (j2<i1) (by rw[dc hA]) (fun q=>?_) (fun ci=>?_)<;>refine zc ?_
  ·exact fin h2 L i1 j2 t2 hp hI2 hv q
  have k1:=hI2.i0;have k2:=hI2.j1;have v2:=w2 (by omega);have v3:=w1 (by omega);have ne:i1≠j2:=fun e=>v3 (by rw[e];exact v2)
  have e1:arith .add .i64 i1 1=i1+1:=aB hA (by omega) (by omega);have e2:arith .sub .i64 j2 1=j2-1:=bD hA (by omega) (by omega);obtain⟨i2,hi2⟩:∃z,z=i1+1:=⟨_,rfl⟩;obtain⟨j3,hj3⟩:∃z,z=j2-1:=⟨_,rfl⟩;rw[<-hi2]at e1;rw[<-hj3]at e2;obtain⟨h5,hh5⟩:∃z,z=bump h2 16:=⟨_,rfl⟩;have x5:Ext h2 h5:=by rw[hh5];exact aq hA _ _
  have t5:=t2.more x5;obtain⟨a5x,a5y,a5z,b5,g5,f5,r5⟩:=t5.read (i:=i1) (by omega) (by omega);obtain⟨a5'x,a5'y,a5'z,b5',g5',f5',r5'⟩:=t5.read (i:=j2) (by omega) (by omega);have q5:=az hA r5;have q5':=az hA r5';rw[<-hh5];obtain⟨h5c,h5d,p5,p5',t5d⟩:=cF hA t5 (i:=i1) (j:=j2) (by omega) (by omega) (by omega) (by omega) g5 g5'
  (refine zq ?_;repeat ((first|rw[e1]|rw[e2]);refine zq ?_))
  refine ih i2 j3 h5d _ (by omega) t5d (hp.trans (aD.swap L a0 (by have:=t.len;omega) (by omega) (by omega) (by omega) (by omega))) ?_ ?_
  ·rw[hi2,hj3]
   exact hI2.swap a0 (by have:=t.len;omega) (by omega) v2
  ·rw[gW L (by omega) (by have:=t.len;omega) (by omega) (by have:=t.len;omega) a0,if_neg (by omega),if_neg (by omega),hv]
theorem Hl{h0 h:af}(hlow:h0.low<=h0.next){b n c:Nat}{L:List LE}{A B p:Int}(a0:0<=A)(bn:B<=n)(pa:A<=p)(pb:p<B)(t:aV h0 h b n L){Q:Value->af->Prop}
  (hQ:∀h' L' m,aV h0 h' b n L'->aD A B L L'->A<m->m<=B->(∀k:Int,A<=k->k<m->fu (gt L' k) (gt L p))->Q (.int .i64 m) h') :
  call 107 [.slice (some ⟨b,0,none⟩) n c,.int .i64 A,.int .i64 B,.int .i64 p,.func (.func 70) #[] #[]] h Q:=by
 have hlow':=hlow
 replace hlow:=t.ext.lowOK hlow
 have few:=t.few;have e1:arith .add .i64 A 1=A+1:=aB hA (by omega) (by omega);have e2:arith .sub .i64 B 1=B-1:=bD hA (by omega) (by omega);obtain⟨A1,hA1⟩:∃z,z=A+1:=⟨_,rfl⟩;obtain⟨B1,hB1⟩:∃z,z=B-1:=⟨_,rfl⟩;rw[<-hA1]at e1;rw[<-hB1]at e2;refine hA.bodyR Try.func107 r107_ok (hA.alike _ _ _ rfl) hlow (zc ?_);obtain⟨h2,hh2⟩:∃z,z=bump h 16:=⟨_,rfl⟩;have x2:Ext h h2:=by rw[hh2];exact aq hA _ _
 have t2:=t.more x2;obtain⟨a2x,a2y,a2z,b2,g2,f2,r2⟩:=t2.read (i:=A) (by omega) (by omega);obtain⟨a2'x,a2'y,a2'z,b2',g2',f2',r2'⟩:=t2.read (i:=p) (by omega) (by omega);have q2:=az hA r2;have q2':=az hA r2';rw[<-hh2];obtain⟨h2c,h2d,p2,p2',t2d⟩:=cF hA t2 (i:=A) (j:=p) (by omega) (by omega) (by omega) (by omega) g2 g2'
 (refine zq ?_;repeat ((first|rw[e1]|rw[e2]);refine zq ?_))
 have s2:=aD.swap (a:=A) (b:=B) L (i:=A) (j:=p) a0 (by have:=t.len;omega) (by omega) (by omega) pa pb;have hv:gt (cV L A p) A=gt L p:=by
  rw[gW L a0 (by have:=t.len;omega) (by omega) (by have:=t.len;omega) a0];by_cases e:A=p
  ·rw[if_pos e,e]
  ·rw[if_neg e,if_pos rfl]
 refine Iv hA hlow' (L0:=L) a0 bn (v:=gt L p) (fun h' L' i e t' hp i0 i1 hl=>?_) (B1+1-A1).toNat A1 B1 h2d _ (Nat.le_refl _) t2d s2 ⟨by omega,by omega,by omega,fun p p0 p1=>by omega⟩ hv;refine zc ?_;exact hQ h' L' i t' hp i0 i1 hl
theorem IC{h0 h h':af}(hl:h.low<=h.next){b sb:Nat}{v:Value}(t:sW h0 h b sb v)(x:Ext (fresh h) h'):sW h0 (lowered h h') b sb v:=t.more (bP hA hl (.refl h) x)
theorem qH{h0 h:af}(hlow:h0.low<=h0.next){b n c sb:Nat}{L:List LE}{i j w:Int}(i0:0<=i)(i1:i<n)(j0:0<=j)(j1:j<n)(t:aV h0 h b n L)(s:sW h0 h b sb (.int .i64 w)){Q:Value->af->Prop}
  (hQ:∀h' r q w',aV h0 h' b n L->sW h0 h' b sb (.int .i64 w')->((r=i/\q=j)\/(r=j/\q=i))->Q (.tuple #[.int .i64 r,.int .i64 q]) h'):call 127 [.slice (some ⟨b,0,none⟩) n c,.int .i64 i,.int .i64 j,.pointer (some ⟨sb,0,none⟩),.func (.func 70) #[] #[]] h Q:=by
 have hlow':=hlow
 replace hlow:=t.ext.lowOK hlow
 have few:=t.few;refine hA.bodyR Try.func127 r127_ok (hA.alike _ _ _ rfl) hlow (zc ?_);obtain⟨h2,hh2⟩:∃z,z=bump h 11:=⟨_,rfl⟩;have x2:Ext h h2:=by rw[hh2];exact aq hA _ _
 have t2:=t.more x2;obtain⟨a2x,a2y,a2z,b2,g2,f2,r2⟩:=t2.read (i:=j) (by omega) (by omega);obtain⟨a2'x,a2'y,a2'z,b2',g2',f2',r2'⟩:=t2.read (i:=i) (by omega) (by omega);have q2:=az hA r2;have q2':=az hA r2';rw[<-hh2];have s2:=s.more x2;have l2:=t2.ext.lowOK hlow';have hlow:=hlow';refine zq ?_;refine dH hA (aw hA h2) (cW hA f2) (cW hA f2') (fun u h2a hu x2a=>⟨_,rfl,?_⟩);have t2b:=de hA hlow t2 x2a;refine zc ?_;have s2b:=IC hA l2 s2 x2a;generalize lowered h2 h2a=h2b at *;refine br (u<0) (by rw[au hA]) (fun cu=>?_) (fun cu=>?_)<;>refine zc ?_
 rotate_left
 ·exact hQ h2b i j w t2b s2b (.inl ⟨rfl,rfl⟩)
 have r5:rd h2b sb 0 1 [.int .i64 w]:=gP hA (s2b.own.readG (o:=0) (n:=1) (by simp));obtain⟨h6,p6,s6,t6⟩:=s2b.put t2b (.int .i64 (arith .add .i64 w 1));have p7:wr h2b sb 0 [.int .i64 (arith .add .i64 w 1)] h6:=jd hA p6;refine zq ?_;exact hQ h6 j i _ t6 s6 (.inr ⟨rfl,rfl⟩)
theorem re{h0 h:af}(hlow:h0.low<=h0.next){b n c sb:Nat}{L:List LE}{i j k w:Int}(i0:0<=i)(i1:i<n)(j0:0<=j)(j1:j<n)(k0:0<=k)(k1:k<n)(t:aV h0 h b n L)(s:sW h0 h b sb (.int .i64 w)){Q:Value->af->Prop}
  (hQ:∀h' r w',aV h0 h' b n L->sW h0 h' b sb (.int .i64 w')->(r=i\/r=j\/r=k)->Q (.int .i64 r) h'):call 124 [.slice (some ⟨b,0,none⟩) n c,.int .i64 i,.int .i64 j,.int .i64 k,.pointer (some ⟨sb,0,none⟩),.func (.func 70) #[] #[]] h Q:=by
 have hlow':=hlow
 replace hlow:=t.ext.lowOK hlow
 refine hA.bodyR Try.func124 r124_ok (hA.alike _ _ _ rfl) hlow (zc ?_);refine qH hA hlow' i0 i1 j0 j1 t s (fun h1 a1 b1 w1 t1 s1 q1=>⟨_,_,rfl,?_⟩);refine zc ?_;refine qH hA hlow' (i:=b1) (j:=k) (by omega) (by omega) k0 k1 t1 s1 (fun h2 a2 b2 w2 t2 s2 q2=>⟨_,_,rfl,?_⟩);refine zc ?_;refine qH hA hlow' (i:=a1) (j:=a2) (by omega) (by omega) (by omega) (by omega) t2 s2 (fun h3 a3 b3 w3 t3 s3 q3=>⟨_,_,rfl,?_⟩);refine zc ?_;exact hQ h3 b3 w3 t3 s3 (by omega)
theorem mV{h0 h:af}(hlow:h0.low<=h0.next){b n c sb:Nat}{L:List LE}{i w:Int}(i0:0<i)(i1:i+1<n)(t:aV h0 h b n L)(s:sW h0 h b sb (.int .i64 w)){Q:Value->af->Prop}
  (hQ:∀h' r w',aV h0 h' b n L->sW h0 h' b sb (.int .i64 w')->(i-1<=r/\r<=i+1)->Q (.int .i64 r) h'):call 123 [.slice (some ⟨b,0,none⟩) n c,.int .i64 i,.pointer (some ⟨sb,0,none⟩),.func (.func 70) #[] #[]] h Q:=by
 have hlow':=hlow
 replace hlow:=t.ext.lowOK hlow
 have few:=t.few;refine hA.bodyR Try.func123 r123_ok (hA.alike _ _ _ rfl) hlow (zc ?_);rw[bD hA (by omega) (by omega),aB hA (by omega) (by omega)];refine re hA hlow' (by omega) (by omega) (by omega) (by omega) (by omega) (by omega) t s (fun h1 r w1 t1 s1 q1=>⟨_,rfl,?_⟩);refine zc ?_;exact hQ h1 r w1 t1 s1 (by omega)
theorem Hn{h0 h:af}(hlow:h0.low<=h0.next){b n c:Nat}{L:List LE}{A B:Int}(a0:0<=A)(ab:A+12<B)(bn:B<=n)(t:aV h0 h b n L){Q:Value->af->Prop}
  (hQ:∀h' p k,aV h0 h' b n L->A<=p->p<B->Q (.tuple #[.int .i64 p,.int .i64 k]) h'):call 104 [.slice (some ⟨b,0,none⟩) n c,.int .i64 A,.int .i64 B,.func (.func 70) #[] #[]] h Q:=by
 have hlow':=hlow
 replace hlow:=t.ext.lowOK hlow
 have few:=t.few;obtain⟨l,hl⟩:∃z,z=B-A:=⟨_,rfl⟩;have e1:arith .sub .i64 B A=l:=by rw[hl];exact bD hA (by omega) (by omega)
 have e2:arith .quo .i64 l 4=l / 4:=qE hA (by omega) (by omega) (by omega);obtain⟨q,hq⟩:∃z,z=l / 4:=⟨_,rfl⟩;rw[<-hq]at e2;have e3:arith .mul .i64 q 1=q:=by rw[iq hA (by omega) (by omega)];omega
 obtain⟨q2,hq2⟩:∃z,z=q*2:=⟨_,rfl⟩;have e4:arith .mul .i64 q 2=q2:=by rw[hq2];exact iq hA (by omega) (by omega)
 obtain⟨q3,hq3⟩:∃z,z=q*3:=⟨_,rfl⟩;have e5:arith .mul .i64 q 3=q3:=by rw[hq3];exact iq hA (by omega) (by omega)
 obtain⟨i,hi⟩:∃z,z=A+q:=⟨_,rfl⟩;have e6:arith .add .i64 A q=i:=by rw[hi];exact aB hA (by omega) (by omega)
 obtain⟨j,hj⟩:∃z,z=A+q2:=⟨_,rfl⟩;have e7:arith .add .i64 A q2=j:=by rw[hj];exact aB hA (by omega) (by omega)
 obtain⟨k,hk⟩:∃z,z=A+q3:=⟨_,rfl⟩;have e8:arith .add .i64 A q3=k:=by rw[hk];exact aB hA (by omega) (by omega)
 refine hA.bodyR Try.func104 r104_ok (hA.alike _ _ _ rfl) hlow (zc ?_);rw[bV hA,cM hA];have x1:Ext h (h.push 1 [Value.int .i64 0]):=.push _ _ _;have o1:=bG.push h 1 [Value.int .i64 0];have n1:(h.push 1 [Value.int .i64 0]).next=h.next+1:=rfl;generalize h.push 1 [Value.int .i64 0]=h1 at *;obtain⟨sb,hsb⟩:∃z,z=h.next:=⟨_,rfl⟩;rw[<-hsb]at o1 ⊢;have t1:=t.more x1;have s1:sW h0 h1 b sb (.int .i64 0):=⟨o1,by omega,by have:=t.ext.next;omega,by have:=t.lt;omega⟩
 (refine zq ?_;repeat ((first|rw[e1]|rw[e2]|rw[e3]|rw[e6]|rw[e4]|rw[e7]|rw[e5]|rw[e8]);refine zq ?_))
 refine br (8<=l) (by rw[bE hA]) (fun _=>?_) (fun z=>by omega)<;>refine zc ?_;have tail:∀(h5:af) (r w5:Int),aV h0 h5 b n L->sW h0 h5 b sb (.int .i64 w5)->A<=r->r<B->rd h5 sb 0 1 [.int .i64 w5]:=fun h5 r w5 t5 s5 _ _=>gP hA (s5.own.readG (o:=0) (n:=1) (by simp))
 refine br (50<=l) (by rw[bE hA]) (fun c50=>?_) (fun c50=>?_)<;>refine zc ?_
 ·refine mV hA hlow' (i:=i) (by omega) (by omega) t1 s1 (fun h2 i2 w2 t2 s2 m2=>⟨_,rfl,?_⟩)
  refine zc ?_;refine mV hA hlow' (i:=j) (by omega) (by omega) t2 s2 (fun h3 j3 w3 t3 s3 m3=>⟨_,rfl,?_⟩);refine zc ?_;refine mV hA hlow' (i:=k) (by omega) (by omega) t3 s3 (fun h4 k4 w4 t4 s4 m4=>⟨_,rfl,?_⟩);refine zc ?_;refine re hA hlow' (i:=i2) (j:=j3) (k:=k4) (by omega) (by omega) (by omega) (by omega) (by omega) (by omega) t4 s4 (fun h5 r w5 t5 s5 m5=>⟨_,rfl,?_⟩);have r5:=tail h5 r w5 t5 s5 (by omega) (by omega);refine zq ?_;refine br (w5=0) (by rw[cJ hA]) (fun _=>?_) (fun _=>?_)<;>refine zc ?_
  ·exact hQ h5 r _ t5 (by omega) (by omega)
  refine br (w5=12) (by rw[cJ hA]) (fun _=>?_) (fun _=>?_)<;>refine zc ?_
  ·exact hQ h5 r _ t5 (by omega) (by omega)
  ·exact hQ h5 r _ t5 (by omega) (by omega)
 ·refine re hA hlow' (i:=i) (j:=j) (k:=k) (by omega) (by omega) (by omega) (by omega) (by omega) (by omega) t1 s1 (fun h5 r w5 t5 s5 m5=>⟨_,rfl,?_⟩)
  have r5:=tail h5 r w5 t5 s5 (by omega) (by omega);refine zq ?_;refine br (w5=0) (by rw[cJ hA]) (fun _=>?_) (fun _=>?_)<;>refine zc ?_
  ·exact hQ h5 r _ t5 (by omega) (by omega)
  refine br (w5=12) (by rw[cJ hA]) (fun _=>?_) (fun _=>?_)<;>refine zc ?_
  ·exact hQ h5 r _ t5 (by omega) (by omega)
  ·exact hQ h5 r _ t5 (by omega) (by omega)
theorem Ho{h0:af}(hlow:h0.low<=h0.next){b n c:Nat}{L0:List LE}{A B:Int}(a0:0<=A)(bn:B<=n){Q:Exit->SS->Prop}
  (hQ:∀h' L e kn,aV h0 h' b n L->aD A B L0 L->Q (.exit 0) ⟨e,kn,[],h'⟩) :
  ∀(m:Nat) (i j:Int) (h:af) (L:List LE),(j-i).toNat<=m->A<=i->j<B->aV h0 h b n L->aD A B L0 L->
   head 105 2 0 ⟨[(0,.slice (some ⟨b,0,none⟩) n c),(8,.int .i64 i),(9,.int .i64 j)],0,[],h⟩ Q:=by
 intro m
 induction m with
 |zero=>
  intro i j h L hm i0 j1 t hp;refine hA.roundR Try.func105 r105_ok (zc ?_);refine br (i<j) (by rw[au hA]) (fun q=>by omega) (fun _=>?_)<;>refine zc ?_;exact hQ h L _ _ t hp
 |succ m ih=>
  intro i j h L hm i0 j1 t hp;have few:=t.few;refine hA.roundR Try.func105 r105_ok (zc ?_);refine br (i<j) (by rw[au hA]) (fun ci=>?_) (fun _=>?_)<;>refine zc ?_
  rotate_left
  ·exact hQ h L _ _ t hp
  have e1:arith .add .i64 i 1=i+1:=aB hA (by omega) (by omega);have e2:arith .sub .i64 j 1=j-1:=bD hA (by omega) (by omega);obtain⟨i2,hi2⟩:∃z,z=i+1:=⟨_,rfl⟩;obtain⟨j3,hj3⟩:∃z,z=j-1:=⟨_,rfl⟩;rw[<-hi2]at e1;rw[<-hj3]at e2;obtain⟨h5,hh5⟩:∃z,z=bump h 16:=⟨_,rfl⟩;have x5:Ext h h5:=by rw[hh5];exact aq hA _ _
  have t5:=t.more x5;obtain⟨a5x,a5y,a5z,b5,g5,f5,r5⟩:=t5.read (i:=i) (by omega) (by omega);obtain⟨a5'x,a5'y,a5'z,b5',g5',f5',r5'⟩:=t5.read (i:=j) (by omega) (by omega);have q5:=az hA r5;have q5':=az hA r5';rw[<-hh5];obtain⟨h5c,h5d,p5,p5',t5d⟩:=cF hA t5 (i:=i) (j:=j) (by omega) (by omega) (by omega) (by omega) g5 g5'
  (refine zq ?_;repeat ((first|rw[e1]|rw[e2]);refine zq ?_))
  exact ih i2 j3 h5d _ (by omega) (by omega) (by omega) t5d (hp.trans (aD.swap L a0 (by have:=t.len;omega) (by omega) (by omega) (by omega) (by omega)))
theorem JG{h0 h:af}(hlow:h0.low<=h0.next){b n c:Nat}{L:List LE}{A B:Int}(a0:0<=A)(ab:A<=B)(bn:B<=n)(t:aV h0 h b n L){Q:Value->af->Prop}
  (hQ:∀h' L',aV h0 h' b n L'->aD A B L L'->Q (.tuple #[]) h'):call 105 [.slice (some ⟨b,0,none⟩) n c,.int .i64 A,.int .i64 B,.func (.func 70) #[] #[]] h Q:=by
 have hlow':=hlow
 replace hlow:=t.ext.lowOK hlow
 have few:=t.few;refine hA.bodyR Try.func105 r105_ok (hA.alike _ _ _ rfl) hlow (zc ?_);rw[bD hA (by omega) (by omega)];refine Ho hA hlow' (L0:=L) a0 bn (fun h' L' e kn t' hp=>?_) (B-1-A).toNat A (B-1) h L (Nat.le_refl _) (by omega) (by omega) t (.refl _ _ _);refine zc ?_;exact hQ h' L' t' hp
