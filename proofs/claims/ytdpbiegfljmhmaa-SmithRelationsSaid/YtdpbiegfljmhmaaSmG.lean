import Derived.Test.YtdpbiegfljmhmaaSmE
set_option linter.unusedSimpArgs false
set_option linter.unusedVariables false
namespace Go.Proofs.Ytdpbiegfljmhmaa.Ext
def insR(F:Nat->Vec)(a:Nat)(v:Vec):Nat->Vec:=fun y=>if y<a then F y else if y=a then v else F (y-1)
theorem ins_lt{F:Nat->Vec}{a y:Nat}(v:Vec)(h:y<a):insR F a v y=F y:=by unfold insR;rw[if_pos h]
theorem ins_eq{F:Nat->Vec}{a:Nat}(v:Vec):insR F a v a=v:=by unfold insR;rw[if_neg (by omega),if_pos rfl]
theorem ins_gt{F:Nat->Vec}{a y:Nat}(v:Vec)(h:a<y):insR F a v y=F (y-1):=by unfold insR;rw[if_neg (by omega),if_neg (by omega)]
theorem ins_lat{w:Nat}{F:Nat->Vec}{v:Vec}:∀(d a k:Nat),a+d=k->Lat w (k+1) (insR F a v) (put F k v)
 |0,a,k,h=>by
  obtain rfl:a=k:=by omega
  refine .of_eq (fun i hi=>?_);unfold put;by_cases c:i=a
  ·rw[if_pos c,c,ins_eq]
  ·rw[if_neg c,ins_lt v (by omega)]
 |d+1,a,k,h=>by
  have ih:=ins_lat (w:=w) (F:=F) (v:=v) d (a+1) k (by omega);have hs:=Lat.swap (w:=w) (k:=k+1) (F:=insR F (a+1) v) (a:=a) (b:=a+1) (by omega) (by omega);refine Lat.trans (.of_eq (fun i hi=>?_)) (hs.trans ih);show insR F a v i=if i=a+1 then insR F (a+1) v a else if i=a then insR F (a+1) v (a+1)else insR F (a+1) v i
  by_cases c1:i=a+1
  ·rw[if_pos c1,c1,ins_gt v (by omega),ins_lt v (by omega)];rfl
  ·rw[if_neg c1]
   by_cases c2:i=a
   ·rw[if_pos c2,c2,ins_eq,ins_eq]
   ·rw[if_neg c2]
    by_cases c3:i<a
    ·rw[ins_lt v c3,ins_lt v (by omega)]
    ·rw[ins_gt v (by omega),ins_gt v (by omega)]
structure Sunk(w K i:Nat)(F F0:Nat->Vec):Prop where
 stp:Stp w K F
 lat:Lat w K F F0
 big:∀y,y<K->∀j,(F y j).natAbs<=1259949000000
 red:∀y z,i<=y->y<z->z<K->0<=F y (leadV w (F z))/\F y (leadV w (F z))<F z (leadV w (F z))
 k4:K<=4
 hM:∀i,i<K->∀j,(F0 i j).natAbs<=9
theorem fall_le{K:Nat}(h:K<=4):K*(fall K K*9 ^ K)<=629856:=by
 have:K=0\/K=1\/K=2\/K=3\/K=4:=by omega
 rcases this with rfl|rfl|rfl|rfl|rfl<;>decide
theorem Stp.small{w K z:Nat}{F F0:Nat->Vec}(s:Stp w K F)(l:Lat w K F F0)(hM:∀i,i<K->∀j,(F0 i j).natAbs<=9)(k4:K<=4)(hz:z<K)(hr:∀m,z<m->m<K->0<=F z (leadV w (F m))/\F z (leadV w (F m))<F m (leadV w (F m)))(j:Nat):(F z j).natAbs<=629856:=
 Nat.le_trans (Lat.bound s l hM hz (fun m hm=>by
  rcases Nat.lt_trichotomy m z with q|q|q
  ·rw[leadV_zero (w:=w) (v:=F z) (s.inc m z q hz)];exact Nat.zero_le _
  ·rw[q];exact Nat.le_refl _
  ·have:=hr m q hm;omega) j) (fall_le k4)
theorem Sunk.old{w K i:Nat}{F F0:Nat->Vec}(f:Sunk w K (i+1) F F0):Old w K (i+1) F 629856:=
 ⟨fun z h1 h2 j=>f.stp.small f.lat f.hM f.k4 h2 (fun m q1 q2=>f.red z m h1 q1 q2) j,fun y z h1 h2 h3=>f.red y z h1 h2 h3⟩
theorem Sunk.step{w K i:Nat}{F F0:Nat->Vec}(f:Sunk w K (i+1) F F0)(hi:i<K):LowOK w F (leadV w (F i)) K (F i)/\Sunk w K i (put F i (lowV w F (leadV w (F i)) K (F i))) F0:=by
 have ho:=f.old;have lo:∀z,z<i+1->z<K->leadV w (F z)<=leadV w (F i):=fun z z1 z2=>by
  by_cases e:z=i
  ·rw[e];omega
  ·have:=f.stp.inc z i (by omega) hi;omega
 have hic:∀z,i+1<=z->z<K->leadV w (F i)<leadV w (F z):=fun z z1 z2=>f.stp.inc i z (by omega) z2
 have hv:∀j,(F i j).natAbs<=(1259949000000:Int).natAbs:=fun j=>f.big i hi j
 have hl:∀z,i+1<=z->z<K->(F i (leadV w (F z))).natAbs<=(1259949000000*F z (leadV w (F z))).natAbs:=fun z z1 z2=>by
  have:=f.stp.pos z z2;have:=f.big i hi (leadV w (F z));omega
 have k4:=f.k4;obtain⟨s1,_⟩:=low_safe f.stp (E:=629856) (N:=1259949000000) (Q:=1259949000000) (by omega) (by omega) (by omega) ho lo hic hv hl (by omega) (by omega);have s2:=low_ok f.stp (E:=629856) (N:=1259949000000) (Q:=1259949000000) (by omega) (by omega) (by omega) ho lo hic hv hl K (Nat.le_refl _);refine⟨s1,?_⟩;have hlat:=low_sp (w:=w) (k:=K) (F:=F) (c:=leadV w (F i)) (v:=F i) hi K (Nat.le_refl _) (fun z _ hz e=>by rw[e]at hz;omega);rw[put_self]at hlat;have e3:∀j,j<=leadV w (F i)->lowV w F (leadV w (F i)) K (F i) j=F i j:=fun j hj=>s2.old j (fun z z1 z2=>by have:=hic z z1 z2;omega)
 have r3:=s2.red;generalize lowV w F (leadV w (F i)) K (F i)=u at *;have hpa:=put_at (F:=F) (k:=i) u;have hpn:∀y,y≠i->put F i u y=F y:=fun y hy=>put_ne u hy
 have hlu:leadV w u=leadV w (F i):=leadV_eq (leadV_le _ _) (fun j hj=>by rw[e3 j (by omega)];exact leadV_zero hj) (fun q=>by rw[e3 _ (Nat.le_refl _)];exact leadV_ne q);have hle:∀y,leadV w (put F i u y)=leadV w (F y):=fun y=>by
  by_cases e:y=i
  ·rw[e,hpa,hlu]
  ·rw[hpn y e]
 have hst:Stp w K (put F i u):=⟨fun y hy=>by rw[hle];exact f.stp.lt y hy,fun y hy=>by
  rw[hle];by_cases e:y=i
  ·rw[e,hpa,e3 _ (Nat.le_refl _)];exact f.stp.pos i hi
  ·rw[hpn y e];exact f.stp.pos y hy,fun y z h1 h2=>by rw[hle,hle];exact f.stp.inc y z h1 h2⟩
 have hred:∀y z,i<=y->y<z->z<K->0<=put F i u y (leadV w (put F i u z))/\put F i u y (leadV w (put F i u z))<put F i u z (leadV w (put F i u z)):=fun y z h1 h2 h3=>by
  rw[hle,hpn z (by omega)];by_cases e:y=i
  ·rw[e,hpa];exact r3 z (by omega) h3
  ·rw[hpn y e];exact f.red y z (by omega) h2 h3
 have hl2:=hlat.trans f.lat;refine⟨hst,hl2,fun y hy j=>?_,hred,f.k4,f.hM⟩;by_cases e:y=i
 ·have:=hst.small hl2 f.hM f.k4 hy (fun m q1 q2=>hred y m (by omega) q1 q2) j
  omega
 ·rw[hpn y e];exact f.big y hy j
theorem Sunk.hnf{w K:Nat}{F F0:Nat->Vec}(f:Sunk w K 0 F F0):Hnf w K F:=⟨f.stp.lt,f.stp.pos,f.stp.inc,fun y z h1 h2=>f.red y z (Nat.zero_le _) h1 h2⟩
theorem Hnf.small{w K:Nat}{F F0:Nat->Vec}(h:Hnf w K F)(l:Lat w K F F0)(hM:∀i,i<K->∀j,(F0 i j).natAbs<=9)(k4:K<=4){i:Nat}(hi:i<K)(j:Nat):(F i j).natAbs<=629856:=
 h.stp.small l hM k4 hi (fun m q1 q2=>h.red i m q1 q2) j
theorem ins_ok{w k a:Nat}{F:Nat->Vec}{u:Vec}{F0:Nat->Vec}(b:Base w k F u F0)(hM:∀i,i<k+1->∀j,(F0 i j).natAbs<=9)(ak:a<=k)(lo:∀y,y<a->leadV w (F y)<leadV w u)(hi:∀z,a<=z->z<k->leadV w u<leadV w (F z))(hp:0<u (leadV w u))(hu:∀j,(u j).natAbs<=1259949000000):Sunk w (k+1) (k+1) (insR F a u) F0:=by
 have v1:∀y,y<a->insR F a u y=F y:=fun y hy=>ins_lt u hy
 have v2:insR F a u a=u:=ins_eq u;have v3:∀y,a<y->insR F a u y=F (y-1):=fun y hy=>ins_gt u hy
 have cs:∀y,y<k+1->(y<a/\insR F a u y=F y)\/(y=a/\insR F a u y=u)\/(a<y/\insR F a u y=F (y-1)):=fun y hy=>by
  rcases Nat.lt_trichotomy y a with q|q|q
  ·exact .inl ⟨q,v1 y q⟩
  ·exact .inr (.inl ⟨q,by rw[q];exact v2⟩)
  ·exact .inr (.inr ⟨q,v3 y q⟩)
 have k3:=b.k3;have c3:=cb3;refine⟨⟨fun y hy=>?_,fun y hy=>?_,fun y z h1 h2=>?_⟩,(ins_lat (k-a) a k (by omega)).trans b.lat,fun y hy j=>?_,fun y z h1 h2 h3=>by omega,by omega,hM⟩
 ·rcases cs y hy with ⟨q,e⟩|⟨q,e⟩|⟨q,e⟩<;>rw[e]
  ·exact b.stp.lt y (by omega)
  ·exact b.lead
  ·exact b.stp.lt (y-1) (by omega)
 ·rcases cs y hy with ⟨q,e⟩|⟨q,e⟩|⟨q,e⟩<;>rw[e]
  ·exact b.stp.pos y (by omega)
  ·exact hp
  ·exact b.stp.pos (y-1) (by omega)
 ·rcases cs y (by omega)with ⟨q,e⟩|⟨q,e⟩|⟨q,e⟩<;>rw[e]<;>rcases cs z h2 with ⟨q2,e2⟩|⟨q2,e2⟩|⟨q2,e2⟩<;>rw[e2]
  ·exact b.stp.inc y z h1 (by omega)
  ·exact lo y q
  ·rcases Nat.lt_or_ge y (z-1)with r|r
   ·exact b.stp.inc y (z-1) r (by omega)
   ·omega
  ·omega
  ·omega
  ·exact hi (z-1) (by omega) (by omega)
  ·omega
  ·omega
  ·exact b.stp.inc (y-1) (z-1) (by omega) (by omega)
 ·rcases cs y hy with ⟨q,e⟩|⟨q,e⟩|⟨q,e⟩<;>rw[e]
  ·have:=b.big y (by omega) j;omega
  ·exact hu j
  ·have:=b.big (y-1) (by omega) j;omega
theorem neg_ok{w k a:Nat}{F:Nat->Vec}{u:Vec}{F0:Nat->Vec}(b:Base w k F u F0)(ak:a<=k)(ho:Old w k a F 13122)(lo:∀y,y<a->leadV w (F y)<leadV w u)(hi:∀z,a<=z->z<k->leadV w u<leadV w (F z))(hn:u (leadV w u)<0)(hu:∀j,(u j).natAbs<=(cb 3).natAbs)
  (ru:∀z,a<=z->z<k->0<=u (leadV w (F z))/\u (leadV w (F z))<F z (leadV w (F z))) {v:Vec} (ev:v=fun j=>u j-2*u j):leadV w v=leadV w u/\LowOK w F (leadV w u) k v/\Base w k F (lowV w F (leadV w u) k v) F0/\leadV w (lowV w F (leadV w u) k v)=leadV w u/\0<lowV w F (leadV w u) k v (leadV w u)/\∀j,(lowV w F (leadV w u) k v j).natAbs<=1259949000000:=by
 have hv:∀j,v j=-(u j):=fun j=>by rw[ev];show u j-2*u j=-(u j);omega
 have b1:Base w k F v F0:=⟨b.stp,by
  have h:=Lat.neg (w:=w) (k:=k+1) (F:=put F k u) (r:=k) (by omega);rw[put_same,put_at]at h;have e:(fun j=>-(u j))=v:=by funext j;rw[hv]
  rw[e]at h;exact h.trans b.lat,b.big,b.k3,b.nz⟩
 have hl:leadV w v=leadV w u:=leadV_eq (leadV_le _ _) (fun j hj=>by rw[hv,leadV_zero hj];rfl) (fun q=>by rw[hv];have:=leadV_ne q;omega);have lo':∀z,z<a->z<k->leadV w (F z)<=leadV w u:=fun z z1 _=>Nat.le_of_lt (lo z z1)
 have hN:∀j,(v j).natAbs<=(1259948825856:Int).natAbs:=fun j=>by rw[hv];have:=hu j;have:=cb3;omega
 have hQ:∀z,a<=z->z<k->(v (leadV w (F z))).natAbs<=(1*F z (leadV w (F z))).natAbs:=fun z z1 z2=>by rw[hv];have:=ru z z1 z2;omega
 have k3:=b.k3;obtain⟨s1,s2⟩:=low_safe b.stp (E:=13122) (N:=1259948825856) (Q:=1) (by omega) (by omega) (by omega) ho lo' hi hN hQ (by omega) (by omega);have s3:=low_ok b.stp (E:=13122) (N:=1259948825856) (Q:=1) (by omega) (by omega) (by omega) ho lo' hi hN hQ k (Nat.le_refl _);have e3:∀j,j<=leadV w u->lowV w F (leadV w u) k v j=v j:=fun j hj=>s3.old j (fun z z1 z2=>by have:=hi z z1 z2;omega)
 refine⟨hl,s1,b1.low _,leadV_eq (leadV_le _ _) (fun j hj=>by rw[e3 j (by omega),hv,leadV_zero hj];rfl) (fun q=>by rw[e3 _ (Nat.le_refl _),hv];omega),by rw[e3 _ (Nat.le_refl _),hv];omega,fun j=>by have:=s2 j;omega⟩
theorem start_ok{w k:Nat}{F F0:Nat->Vec}(h:Hnf w k F)(l:Lat w k F F0)(hM:∀i,i<k+1->∀j,(F0 i j).natAbs<=9)(k3:k<=3)(nz:∃d J I,(∀i,i<d->J i<w)/\prod d (rv (k+1) F0 J) (k+1) I≠0):Base w k F (F0 k) F0/\∃a,FrI w k a F (F0 k) 9 9:=by
 have hk:k=0\/k=1\/k=2\/k=3:=by omega
 have hb1:k*(fall k k*9 ^ k)<=13122:=by rcases hk with rfl|rfl|rfl|rfl<;>decide
 have hb2:fall k k*9 ^ k<=4374:=by rcases hk with rfl|rfl|rfl|rfl<;>decide
 have hsm:∀z,z<k->∀j,(F z j).natAbs<=13122:=fun z hz j=>Nat.le_trans (Lat.bound h.stp l (fun i hi=>hM i (by omega)) hz (fun m hm=>by
  rcases Nat.lt_trichotomy m z with q|q|q
  ·rw[leadV_zero (w:=w) (v:=F z) (h.inc m z q hz)];exact Nat.zero_le _
  ·rw[q];exact Nat.le_refl _
  ·have:=h.red z m q hm;omega) j) hb1
 have hD:=Lat.leads h.stp l (fun i hi=>hM i (by omega));have c3:=cb3;have b:Base w k F (F0 k) F0:=⟨h.stp,by
  have:=l.more (F0 k);rw[put_self]at this;exact this,fun y hy j=>by have:=hsm y hy j;omega,k3,nz⟩
 refine⟨b,?_⟩;obtain⟨a,p1,p2,p3⟩:=h.stp.parts (leadV w (F0 k));refine⟨a,p1,p2,p3,⟨fun z _ hz j=>hsm z hz j,fun y z _ h2 h3=>h.red y z h2 h3⟩,by omega,by omega,fun j=>hM k (by omega) j,fun z _ hz=>?_,?_⟩
 ·have:=h.pos z hz
  have:=hM k (by omega) (leadV w (F z));omega
 ·have q1:=Pt_drop (f:=ldF w F) (k:=k) (fun i hi=>h.pos i hi) a 0 (by omega)
  rw[Nat.zero_add,Nat.sub_zero,Pt_prodL]at q1;have q2:prodL (ldF w F) k<=4374:=by
   have hD':prodL (ldF w F) k<=((fall k k*9 ^ k:Nat):Int):=hD;omega
  have q3:=Int.mul_le_mul_of_nonneg_left (show Pt (ldF w F) a (k-a)<=4374 by omega) (show(0:Int)<=9+7*(9*13122) by omega);have q4:=cb_mono (a:=0) (b:=a) (by omega);have q5:cb 0=3673320192:=by decide
  omega
end Go.Proofs.Ytdpbiegfljmhmaa.Ext
namespace Go.Proofs.Ytdpbiegfljmhmaa.Ext
theorem lowV_congr{w k c:Nat}{F G:Nat->Vec}{v:Vec}(e:∀z,z<k->G z=F z):∀y,y<=k->lowV w G c y v=lowV w F c y v
 |0,_=>rfl
 |y+1,hy=>by
  show(if c<leadV w (G y)then(fun j=>lowV w G c y v j-lowV w G c y v (leadV w (G y)) / G y (leadV w (G y))*G y j)else lowV w G c y v)=_;rw[e y (by omega),lowV_congr e y (by omega)];rfl
theorem LowOK.congr{w k c:Nat}{F G:Nat->Vec}{v:Vec}(e:∀z,z<k->G z=F z)(h:LowOK w F c k v):LowOK w G c k v:=fun y hy hc j=>by
 rw[e y hy]at hc ⊢;rw[lowV_congr e y (by omega),lowV_congr e (y+1) (by omega)];exact h y hy hc j
theorem Stp.congr{w k:Nat}{F G:Nat->Vec}(e:∀z,z<k->G z=F z)(h:Stp w k F):Stp w k G:=
 ⟨fun i hi=>by rw[e i hi];exact h.lt i hi,fun i hi=>by rw[e i hi];exact h.pos i hi,fun i j hi hj=>by rw[e i (by omega),e j hj];exact h.inc i j hi hj⟩
theorem Old.congr{w k a:Nat}{F G:Nat->Vec}{E:Int}(e:∀z,z<k->G z=F z)(h:Old w k a F E):Old w k a G E:=
 ⟨fun z h1 h2 j=>by rw[e z h2];exact h.le z h1 h2 j,fun y z h1 h2 h3=>by rw[e y (by omega),e z h3];exact h.red y z h1 h2 h3⟩
theorem Base.congr{w k:Nat}{F G F0:Nat->Vec}{v:Vec}(e:∀z,z<k->G z=F z)(b:Base w k F v F0):Base w k G v F0:=
 ⟨b.stp.congr e,(Lat.of_eq (fun i hi=>by unfold put;split;rfl;exact e i (by omega))).trans b.lat,fun y hy j=>by rw[e y hy];exact b.big y hy j,b.k3,b.nz⟩
theorem ldF_congr{w k a:Nat}{F G:Nat->Vec}(e:∀z,z<k->G z=F z)(ha:a<=k):Pt (ldF w G) a (k-a)=Pt (ldF w F) a (k-a):=
 Pt_congr _ _ (fun i h1 h2=>by unfold ldF;rw[e i (by omega)])
theorem FrI.congr{w k a:Nat}{F G:Nat->Vec}{v:Vec}{N Q:Int}(e:∀z,z<k->G z=F z)(h:FrI w k a F v N Q):FrI w k a G v N Q:=
 ⟨h.ak,fun y hy=>by rw[e y (by have:=h.ak;omega)];exact h.lo y hy,fun z h1 h2=>by rw[e z h2];exact h.hi z h1 h2,h.old.congr e,h.n0,h.q1,h.le,fun z h1 h2=>by rw[e z h2];exact h.ld z h1 h2,by rw[ldF_congr e h.ak];exact h.bud⟩
theorem MdI.congr{w k a:Nat}{F G:Nat->Vec}{v:Vec}{n m:Int}(e:∀z,z<k->G z=F z)(h:MdI w k a F v n m):MdI w k a G v n m:=
 ⟨h.ak,fun y hy=>by rw[e y (by have:=h.ak;omega)];exact h.lo y hy,by rw[e a h.ak];exact h.eq,h.old.congr e,by rw[e a h.ak];exact h.xy,fun z h1 h2=>by rw[e z h2];exact h.rv z h1 h2,fun z h1 h2=>by rw[e z h2,e a h.ak];exact h.rf z h1 h2,h.vn,fun j=>by rw[e a h.ak];exact h.fm j,by rw[ldF_congr e (by have:=h.ak;omega),e a h.ak];exact h.bud⟩
structure Rnd(w k:Nat)(A F0:Nat->Vec)(D M:Nat):Prop where
 base:Base w k A (A k) F0
 st:(∃a N Q,FrI w k a A (A k) N Q)\/(∃a n m,MdI w k a A (A k) n m)
 m0:w-leadV w (A k)<=D
 m1:∀a,a<k->leadV w (A a)=leadV w (A k)->(A a (leadV w (A k))).toNat<=M
theorem Rnd.low{w k D M:Nat}{A F0:Nat->Vec}(r:Rnd w k A F0 D M):LowOK w A (leadV w (A k)) k (A k)/\Base w k A (lowV w A (leadV w (A k)) k (A k)) F0:=by
 refine⟨?_,r.base.low _⟩;rcases r.st with ⟨a,N,Q,h⟩|⟨a,n,m,h⟩
 ·exact(h.low r.base).1
 ·exact(h.low r.base).2
def Stepd(w k:Nat)(A F0:Nat->Vec)(a:Nat)(u2:Vec)(D M:Nat):Prop:=
 (u2 (leadV w (A a))=0/\∃D' M',D'<D/\Rnd w k (put A k u2) F0 D' M') \/
 (u2 (leadV w (A a))≠0/\leadV w u2=leadV w (A a)/\LowOK w A (leadV w (A a)) k u2/\leadV w (lowV w A (leadV w (A a)) k u2)=leadV w (A a)/\∃M',M'<M/\Rnd w k (put (put A a (lowV w A (leadV w (A a)) k u2)) k (A a)) F0 D M')
theorem Rnd.next{w k a D M:Nat}{A F0:Nat->Vec}{u2:Vec}(ha:a<k)(he:leadV w (A a)=leadV w (A k))(hD:w-leadV w (A a)<=D)(hM:(A a (leadV w (A a))).toNat<=M)(n:Next w k F0 A a u2):Stepd w k A F0 a u2 D M:=by
 rcases n with ⟨n1,n2,b,a',N,Q,f⟩|⟨n1,n2,n3,n4,n5,b,n',m',f⟩
 ·have hk:put A k u2 k=u2:=put_at u2
  have e:∀z,z<k->put A k u2 z=A z:=fun z hz=>put_ne u2 (by omega)
  have bl:=b.lead;refine .inl ⟨n1,w-leadV w u2,(cb 3).toNat,by omega,by rw[hk];exact b.congr e,.inl ⟨a',N,Q,by rw[hk];exact f.congr e⟩,by rw[hk];exact Nat.le_refl _,fun z hz _=>?_⟩;rw[hk,e z hz];have:=b.big z hz (leadV w u2);have c3:=cb3;omega
 ·have h0:=b.stp.pos a ha
  rw[put_at,n4]at h0;refine .inr ⟨n1,n2,n3,n4,(lowV w A (leadV w (A a)) k u2 (leadV w (A a))).toNat,by omega,?_⟩;generalize lowV w A (leadV w (A a)) k u2=u at *;have hk:put (put A a u) k (A a) k=A a:=put_at _;have e:∀z,z<k->put (put A a u) k (A a) z=put A a u z:=fun z hz=>put_ne _ (by omega)
  have ea:put A a u a=u:=put_at u;refine⟨by rw[hk];exact b.congr e,.inr ⟨a,n',m',by rw[hk];exact f.congr e⟩,by rw[hk];omega,fun z hz hle=>?_⟩;rw[hk,e z hz]at hle ⊢;by_cases c:z=a
  ·rw[c,ea];exact Nat.le_refl _
  ·exfalso
   rw[put_ne u c]at hle;have h1:=b.stp.inc;rcases Nat.lt_or_gt_of_ne c with q|q
   ·have:=h1 z a q ha;rw[put_ne u c,ea,n4]at this;omega
   ·have:=h1 a z q hz;rw[put_ne u c,ea,n4]at this;omega
theorem Rnd.step{w k a D M:Nat}{A F0:Nat->Vec}(r:Rnd w k A F0 D M)(ha:a<k)(he:leadV w (A a)=leadV w (A k)){u u2:Vec}(eu:u=lowV w A (leadV w (A k)) k (A k)){q:Int}(eq:q=u (leadV w (A k)) / A a (leadV w (A k)))(e2:u2=fun j=>u j-q*A a j) :
  (∀j,(u j).natAbs<=9000000000000000000/\(q*A a j).natAbs<=9000000000000000000/\(u j-q*A a j).natAbs<=9000000000000000000)/\Stepd w k A F0 a u2 D M:=by
 have hM:=r.m1 a ha he;have hD:=r.m0;rw[<-he]at hM hD;have b:=r.base;have k3:=b.k3;have c3:=cb3;rcases r.st with ⟨a0,N,Q,h⟩|⟨a0,n,m,h⟩
 ·have ea:a0=a:=by
   rcases Nat.lt_trichotomy a0 a with c|c|c
   ·have:=h.hi a0 (Nat.le_refl _) (by omega);have:=b.stp.inc a0 a c ha;omega
   ·exact c
   ·have:=h.lo a c;omega
  subst ea;obtain⟨s1,s2⟩:=fr_step b h ha he eu eq;rw[<-e2]at s2;have l2:=(h.low b).2.1;rw[<-eu]at l2;have ht:=h.top b;have hc:=cb_le (a:=a0) (by omega);have hn:=h.n0;have hq:=h.q1;exact⟨fun j=>⟨by have:=l2 j;omega,(s1 j).1,(s1 j).2⟩,Rnd.next ha he hD hM s2⟩
 ·have ea:a0=a:=inc_inj (p:=fun i=>leadV w (A i)) b.stp.inc h.ak ha (by show leadV w (A a0)=leadV w (A a);rw[h.eq,he])
  subst ea;have hid:=(h.low b).1 k (Nat.le_refl _);rw[hid]at eu;subst eu;obtain⟨s1,s2⟩:=md_step b h eq;rw[<-e2]at s2;have hv:∀j,(A k j).natAbs<=9000000000000000000:=fun j=>by
   have h1:=h.vn j;have hP:=Pt_pos (f:=ldF w A) (k-(a0+1)) (a0+1) (fun i h1 h2=>b.stp.pos i (by omega));have hy0:=h.y0 b;have hx:=h.xy;have hn:0<=n:=by have:=h.vn 0;omega
   have hm:0<=m:=by have:=h.fm 0;omega
   have b1:=h.bud;have b2:0<=n*A a0 (leadV w (A k)):=Int.mul_nonneg hn (by omega);have b3:0<=m*A k (leadV w (A k)):=Int.mul_nonneg hm (by omega);have b4:=mul_ge (show 0<=n*A a0 (leadV w (A k))+m*A k (leadV w (A k)) by omega) hP;have b5:=mul_ge hn hy0;have b6:=cb_le (a:=a0) (by omega);omega
  exact⟨fun j=>⟨hv j,(s1 j).1,(s1 j).2⟩,Rnd.next ha he hD hM s2⟩
theorem Rnd.own{w k a D M:Nat}{A F0:Nat->Vec}(r:Rnd w k A F0 D M)(hM:∀i,i<k+1->∀j,(F0 i j).natAbs<=9)(ak:a<=k)(lo:∀y,y<a->leadV w (A y)<leadV w (A k))(hi:∀z,a<=z->z<k->leadV w (A k)<leadV w (A z)){u:Vec}(eu:u=lowV w A (leadV w (A k)) k (A k)) :
  leadV w u=leadV w (A k)/\(∀j,(u j).natAbs<=1259948825856)/\(0<u (leadV w (A k))->Sunk w (k+1) (k+1) (insR A a u) F0) /\
  (u (leadV w (A k))<0->∀v,v=(fun j=>u j-2*u j)->leadV w v=leadV w (A k)/\LowOK w A (leadV w (A k)) k v/\Sunk w (k+1) (k+1) (insR A a (lowV w A (leadV w (A k)) k v)) F0):=by
 have b:=r.base;have bu:=b.low (leadV w (A k));have k3:=b.k3;have c3:=cb3;obtain⟨a0,N,Q,h⟩:∃a N Q,FrI w k a A (A k) N Q:=by
  rcases r.st with h|⟨a0,n,m,h⟩
  ·exact h
  ·exfalso
   have:=h.eq;rcases Nat.lt_or_ge a0 a with c|c
   ·have:=lo a0 c;omega
   ·have:=hi a0 c h.ak;omega
 have ea:a0=a:=by
  rcases Nat.lt_trichotomy a0 a with c|c|c
  ·have:=h.hi a0 (Nat.le_refl _) (by omega);have:=lo a0 c;omega
  ·exact c
  ·have:=h.lo a c;have:=hi a (Nat.le_refl _) (by have:=h.ak;omega);omega
 subst ea;obtain⟨_,l2,l3,l4⟩:=h.low b;rw[<-eu]at l2 l3 l4 bu;have ht:=h.top b;have hc:=cb_le (a:=a0) (by omega);have hn:=h.n0;have hq:=h.q1;have hu:∀j,(u j).natAbs<=1259948825856:=fun j=>by have:=l2 j;omega
 have hl:leadV w u=leadV w (A k):=leadV_eq (leadV_le _ _) (fun j hj=>by rw[l3 j (by omega)];exact leadV_zero hj) (fun q=>by rw[l3 _ (Nat.le_refl _)];exact leadV_ne q);refine⟨hl,hu,fun hp=>ins_ok bu hM ak (fun y hy=>by rw[hl];exact lo y hy) (fun z z1 z2=>by rw[hl];exact hi z z1 z2) (by rw[hl];exact hp) (fun j=>by have:=hu j;omega),fun hneg v ev=>?_⟩;obtain⟨n1,n2,n3,n4,n5,n6⟩:=neg_ok bu ak h.old (fun y hy=>by rw[hl];exact lo y hy) (fun z z1 z2=>by rw[hl];exact hi z z1 z2) (by rw[hl];exact hneg) (fun j=>by have:=hu j;omega) (fun z z1 z2=>l4 z z1 z2 (hi z z1 z2)) ev;rw[hl]at n1 n2 n3 n4 n5 n6;exact⟨n1,n2,ins_ok n3 hM ak (fun y hy=>by rw[n4];exact lo y hy) (fun z z1 z2=>by rw[n4];exact hi z z1 z2) (by rw[n4];exact n5) n6⟩
theorem Rnd.start{w k:Nat}{A F0:Nat->Vec}(h:Hnf w k A)(l:Lat w k A F0)(hM:∀i,i<k+1->∀j,(F0 i j).natAbs<=9)(k3:k<=3)(nz:∃d J I,(∀i,i<d->J i<w)/\prod d (rv (k+1) F0 J) (k+1) I≠0)(hk:A k=F0 k):∃D M,Rnd w k A F0 D M:=by
 obtain⟨b,a,f⟩:=start_ok h l hM k3 nz;rw[<-hk]at b f;refine⟨w-leadV w (A k),(cb 3).toNat,b,.inl ⟨a,9,9,f⟩,Nat.le_refl _,fun z hz _=>?_⟩;have:=b.big z hz (leadV w (A k));have c3:=cb3;omega
end Go.Proofs.Ytdpbiegfljmhmaa.Ext
