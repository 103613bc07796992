import Derived.Test.YtdpbiegfljmhmaaSlBp
import Derived.Test.YtdpbiegfljmhmaaFqD
import Derived.Test.YtdpbiegfljmhmaaDetF
import Derived.Test.YtdpbiegfljmhmaaDetG
import Derived.Test.YtdpbiegfljmhmaaSmV
import Derived.Test.YtdpbiegfljmhmaaSmAl
import Derived.Test.YtdpbiegfljmhmaaSmB
set_option linter.unusedSimpArgs false
set_option linter.unusedVariables false
namespace Go.Proofs.Ytdpbiegfljmhmaa
open Go.cL
set_option maxRecDepth 100000
theorem sA.gB{B:List Fc}{k:Nat}{W:Int}(w:sA B k W)(k4:k<=4):W<=12960000:=by
 have h:=w.le;have:(60:Nat) ^ k<=60 ^ 4:=Nat.pow_le_pow_right om k4;omega
theorem C3{B:List Fc}{W:Int}{k i:Nat}(h:i<k):gt (Au B W k) (i:Int)=oY B W i:=QX h
theorem Je{a p W:Int}(ha:a.natAbs<=629856)(p0:0<=p)(p1:p<W)(hW:W<=12960000):(a*p).natAbs<=8162933760000:=by
 have:=Ext.jN ha (show p.natAbs<=12960000 by omega);omega
theorem sA.ex{B:List Fc}{k:Nat}(ht:∀i:Int,0<=i->i<k->cZ (gt B i)/\(gt B i).d<=60):∃W,sA B k W:=by
 have:∀i,i<=k->∃W,sA B i W:=by
  intro i
  induction i with
  |zero=>intro _;exact⟨1,sA.start B⟩
  |succ i ih=>
   intro hi;obtain⟨W,w⟩:=ih om;obtain⟨⟨ok,_,_⟩,d60⟩:=ht i om om;exact⟨_,w.step rfl ok.is.den d60⟩
 exact this k (Nat.le_refl k)
theorem bH.wF{g:List (List Int)}{m n s:Nat}{A:Nat->Ext.aN}(a:bH g m n n s A){i:Nat}(hi:i<n):Ext.aj (n+m) (A i)=i:=by
 have e:=a.ech;have h1:i<=Ext.aj (n+m) (A i):=Ext.tN (k:=n) (r:=fun i=>Ext.aj (n+m) (A i)) (fun i hi=>e.inc i (i+1) om hi) i hi;have up:∀t,i+t<n->Ext.aj (n+m) (A i)+t<=Ext.aj (n+m) (A (i+t)):=by
  intro t
  induction t with
  |zero=>intro _;exact Nat.le_refl _
  |succ t ih=>
   intro ht;have h2:=ih om;have h3:Ext.aj (n+m) (A (i+t))<Ext.aj (n+m) (A (i+(t+1))):=e.inc (i+t) (i+(t+1)) om om;omega
 have h3:=up (n-1-i) om;have h4:Ext.aj (n+m) (A (i+(n-1-i)))<n:=e.lt (i+(n-1-i)) om;omega
def jB(A:Nat->Ext.aN)(B:List Fc)(W:Int)(m n k:Nat):Int:=Ext.aT (fun t=>A k (n+t)*oY B W t) m
def gC(A:Nat->Ext.aN)(B:List Fc)(W:Int)(m n:Nat)(k:Nat):Int:=jB A B W m n k % W*Ext.Mk A n
theorem qy{A:Nat->Nat->Int}:∀n,(∀i,i<n->0<A i i)->0<Ext.Mk A n
 |0,_=>by show(0:Int)<1;decide
 |n+1,h=>Int.mul_pos (qy n (fun i hi=>h i om)) (h n om)
theorem bH.diag{g:List (List Int)}{m n s:Nat}{A:Nat->Ext.aN}(a:bH g m n n s A){i:Nat}(hi:i<n):0<A i i:=by
 have:=a.N6.pos i (by have:=a.sum;omega);rw[a.wF hi]at this;exact this
theorem bH.KT{g:List (List Int)}{m n s:Nat}{A:Nat->Ext.aN}(a:bH g m n n s A){B:List Fc}{W:Int}(hW:0<W):Ext.Aw A (gC A B W m n) (W*Ext.Mk A n) n:=by
 have dp:∀i,i<n->0<A i i:=fun i hi=>a.diag hi
 refine⟨fun i j hi hj=>Ext.bD (w:=n+m) (by rw[a.wF hi];exact hj),dp,Int.mul_pos hW (qy n dp),Int.dvd_mul_left ..,fun k hk=>Int.dvd_mul_left ..⟩
structure OH(g:List (List Int))(P:Nat->Int)(m n:Nat)(many size:Int)(x:List Int):Prop where
 len:x.length=n
 uE:∀j:Nat,j<n->0<=gt x (j:Int)/\gt x (j:Int)<size
 eqs:∀i,i<m->size∣P i*many-Ext.aT (fun j=>Ext.el g i j*gt x (j:Int)) n
theorem Ft(f g:Nat->Int)(n:Nat):Ext.aT (fun k=>f k-g k) n=Ext.aT f n-Ext.aT g n:=by
 have h:=Ext.sL (fun k=>f k-g k) g n;rw[Ext.aO n (g:=f) (fun k _=>om)]at h;omega
theorem bH.aa0{g:List (List Int)}{m n s:Nat}{A:Nat->Ext.aN}(a:bH g m n n s A){B:List Fc}{W:Int}(w:sA B m W)(hR:kO g B m n)(x:List Int):Ext.CT A (gC A B W m n) (W*Ext.Mk A n) n 0 x↔OH g (oY B W) m n (Ext.Mk A n) (W*Ext.Mk A n) x:=by
 have hs:=a.sum;obtain⟨many,eM⟩:∃z,z=Ext.Mk A n:=⟨_,rfl⟩;have row:∀k,k<n->((gC A B W m n k-Ext.iA A n k x) % (W*many)=0↔W*many∣jB A B W m n k*many-Ext.iA A n k x):=fun k hk=>by
  have e:jB A B W m n k*many-Ext.iA A n k x=(gC A B W m n k-Ext.iA A n k x)+W*many*(jB A B W m n k / W):=by
   unfold gC;rw[<-eM];have h1:=Int.emod_add_mul_ediv (jB A B W m n k) W;have h2:jB A B W m n k*many=(jB A B W m n k % W+W*(jB A B W m n k / W))*many:=by rw[h1]
   rw[h2,Int.add_mul,Int.mul_assoc W,Int.mul_comm (jB A B W m n k / W),<-Int.mul_assoc W];omega
  rw[e];constructor
  ·intro h
   exact Int.dvd_add (Int.dvd_of_emod_eq_zero h) (Int.dvd_mul_right _ _)
  ·intro h
   have:=Int.dvd_sub h (Int.dvd_mul_right (W*many) (jB A B W m n k / W));rw[Int.add_sub_cancel]at this;exact Int.emod_eq_zero_of_dvd this
 rw[<-eM];constructor
 ·intro sx
  refine⟨sx.len,fun j hj=>sx.uE j (Nat.zero_le j) hj,fun i hi=>?_⟩;obtain⟨c,hc⟩:=a.CC.ge i hi;have hel:∀j,j<n->Ext.el g i j=Ext.aT (fun k=>c k*A k j) m:=fun j hj=>by rw[<-Hx hj];exact hc j om
  have hdl:∀t,t<m->(if t=i then(1:Int)else 0)=Ext.aT (fun k=>c k*A k (n+t)) m:=fun t ht=>by rw[<-Hy (g:=g) (n:=n)];exact hc (n+t) om
  have e1:oY B W i=Ext.aT (fun k=>c k*jB A B W m n k) m:=by
   have h1:oY B W i=Ext.aT (fun t=>(if t=i then(1:Int)else 0)*oY B W t) m:=by
    rw[Ext.pt m hi (fun k _ ne=>by rw[if_neg ne,Int.zero_mul])];simp
   rw[h1,Ext.aO m (g:=fun t=>Ext.aT (fun k=>c k*(A k (n+t)*oY B W t)) m) (fun t ht=>by
    rw[hdl t ht,<-iZ];exact Ext.aO m (fun k _=>by rw[Int.mul_assoc])),<-nu]
   exact Ext.aO m (fun k _=>by unfold jB;rw[Ext.jW])
  have e2:Ext.aT (fun j=>Ext.el g i j*gt x (j:Int)) n=Ext.aT (fun k=>c k*Ext.iA A n k x) m:=by
   rw[Ext.aO n (g:=fun j=>Ext.aT (fun k=>c k*(A k j*gt x (j:Int))) m) (fun j hj=>by
    rw[hel j hj,<-iZ];exact Ext.aO m (fun k _=>by rw[Int.mul_assoc])),<-nu]
   exact Ext.aO m (fun k _=>by unfold Ext.iA;rw[Ext.jW])
  have e3:oY B W i*many-Ext.aT (fun j=>Ext.el g i j*gt x (j:Int)) n=Ext.aT (fun k=>c k*(jB A B W m n k*many-Ext.iA A n k x)) m:=by
   rw[e1,e2,<-iZ,<-Ft];exact Ext.aO m (fun k _=>by rw[Int.mul_sub,Int.mul_assoc])
  rw[e3];refine Ext.rj m (fun k hk=>Int.dvd_mul_of_dvd_right ?_);by_cases ck:k<n
  ·exact(row k ck).1 (sx.eqs k (Nat.zero_le k) ck)
  ·have z1:Ext.iA A n k x=0:=by
    unfold Ext.iA;rw[Ext.aO n (g:=fun _=>0) (fun j hj=>by
     rw[Ext.bD (w:=n+m) (v:=A k) (j:=j) (by have:=a.hi k om hk;omega),Int.zero_mul]),Ext.mS]
   have z2:W∣jB A B W m n k:=by
    have:=hR W w _ (a.rel (i:=k-n) om);rw[show n+(k-n)=k by omega]at this;exact Int.dvd_of_emod_eq_zero this
   rw[z1,Int.sub_zero];exact Int.mul_dvd_mul z2 (Int.dvd_refl many)
 ·intro sx
  refine⟨sx.len,fun j hj=>om,fun j _ hj=>sx.uE j hj,fun k _ hk=>?_⟩;refine(row k hk).2 ?_;have e3:jB A B W m n k*many-Ext.iA A n k x=Ext.aT (fun t=>A k (n+t)*(oY B W t*many-Ext.aT (fun j=>Ext.el g t j*gt x (j:Int)) n)) m:=by
   have e1:Ext.iA A n k x=Ext.aT (fun t=>A k (n+t)*Ext.aT (fun j=>Ext.el g t j*gt x (j:Int)) n) m:=by
    unfold Ext.iA;rw[Ext.aO n (g:=fun j=>Ext.aT (fun t=>A k (n+t)*(Ext.el g t j*gt x (j:Int))) m) (fun j hj=>by
     rw[a.tail (i:=k) om hj,<-iZ];exact Ext.aO m (fun t _=>by rw[Int.mul_assoc])),<-nu]
    exact Ext.aO m (fun t _=>by rw[Ext.jW])
   unfold jB;rw[e1,<-iZ,<-Ft];exact Ext.aO m (fun t _=>by rw[Int.mul_sub,Int.mul_assoc])
  rw[e3];exact Ext.rj m (fun t ht=>Int.dvd_mul_of_dvd_right (sx.eqs t ht))
def vq(x:Fc):Rat:=rq x.n x.d
def dk(f:Nat->Rat):Nat->Rat
 |0=>0
 |n+1=>dk f n+f n
theorem dQ{f g:Nat->Rat}:∀(n:Nat),(∀k,k<n->f k=g k)->dk f n=dk g n
 |0,_=>rfl
 |n+1,h=>by show dk f n+f n=dk g n+g n;rw[dQ n (fun k hk=>h k om),h n om]
theorem tQ(c y:Nat->Int){D:Int}(hD:D≠0):∀n,dk (fun j=>(c j:Rat)*rq (y j) D) n=rq (Ext.aT (fun j=>c j*y j) n) D
 |0=>by
  show(0:Rat)=rq 0 D;have:=jQ (l:=0) hD;rw[Int.zero_mul]at this;rw[<-this];rfl
 |n+1=>by
  show dk (fun j=>(c j:Rat)*rq (y j) D) n+(c n:Rat)*rq (y n) D=rq (Ext.aT (fun j=>c j*y j) n+c n*y n) D;rw[tQ c y hD n,CM,uS hD]
def fr(a b:Int):Fc:=⟨(rq a b).num,(rq a b).den⟩
theorem Jf{a b:Int}(ha:a.natAbs<=1000000000000000000)(hb:b.natAbs<=1000000000000000000)(h0:b≠0):hH (fr a b).n (fr a b).d (rq a b):=⟨rfl,rfl,tM ha hb h0⟩
theorem Jg{a b:Int}(h0:0<=a)(h1:a<b)(hb:b<=1000000000000000000):cZ (fr a b):=by
 have f:=Jf (a:=a) (b:=b) om om om;have fl:=CO f om;rw[Int.ediv_eq_zero_of_lt h0 h1]at fl;have hd:=f.den;refine⟨f.ok,?_,?_⟩
 ·have:=Int.emod_nonneg (fr a b).n (show(fr a b).d≠0 by omega)
  have e:=Int.emod_add_mul_ediv (fr a b).n (fr a b).d;rw[fl,Int.mul_zero]at e;omega
 ·have:=Int.emod_lt_of_pos (fr a b).n (show 0<(fr a b).d by omega)
  have e:=Int.emod_add_mul_ediv (fr a b).n (fr a b).d;rw[fl,Int.mul_zero]at e;omega
theorem OI{a b:Int}(ha:a.natAbs<=1000000000000000000)(hb:b.natAbs<=1000000000000000000)(h0:b≠0):vq (fr a b)=rq a b:=(Jf ha hb h0).rq
theorem cZ.is{x:Fc}(h:cZ x):hH x.n x.d (vq x):=h.1.is
theorem OJ{x y:Fc}(h1:x.n=y.n)(h2:x.d=y.d):x=y:=by cases x;cases y;simp_all
theorem Bj{x:Fc}(hx:cZ x){y D:Int}(hD:0<D)(e:vq x=rq y D):0<=y/\y<D/\x=fr y D:=by
 have a:=hx.is;rw[e]at a;have fl:=CO a hD;rw[Int.ediv_eq_zero_of_lt hx.2.1 hx.2.2]at fl;have e1:=Int.emod_add_mul_ediv y D;rw[<-fl,Int.mul_zero]at e1;have:=Int.emod_nonneg y (show D≠0 by omega);have:=Int.emod_lt_of_pos y hD;refine⟨om,om,OJ a.1 a.2.1⟩
structure qA(g:List (List Int))(B:List Fc)(m n:Nat)(X:List Fc):Prop where
 len:X.length=n
 turn:∀j:Nat,j<n->cZ (gt X (j:Int))
 eqs:∀i:Nat,i<m->∃z:Int,dk (fun j=>(Ext.el g i j:Rat)*vq (gt X (j:Int))) n=vq (gt B (i:Int))+(z:Rat)
theorem wG(f:Int->Fc)(x:List Int){j:Nat}(h:j<x.length):gt (x.map f) (j:Int)=f (gt x (j:Int)):=by
 unfold gt;rw[List.getD_eq_getElem?_getD,List.getD_eq_getElem?_getD,show((j:Int)).toNat=j from rfl,List.getElem?_map,List.getElem?_eq_getElem h];rfl
theorem KU{x y:List Fc}{n:Nat}(hx:x.length=n)(hy:y.length=n)(h:∀j:Nat,j<n->gt x (j:Int)=gt y (j:Int)):x=y:=by
 apply List.ext_getElem?;intro j;by_cases c:j<n
 ·have:=h j c
  unfold gt at this;rw[List.getD_eq_getElem?_getD,List.getD_eq_getElem?_getD,show((j:Int)).toNat=j from rfl,List.getElem?_eq_getElem om,List.getElem?_eq_getElem om]at this;rw[List.getElem?_eq_getElem om,List.getElem?_eq_getElem om];exact congrArg some this
 ·rw[List.getElem?_eq_none om,List.getElem?_eq_none om]
theorem Bk{B:List Fc}{m:Nat}{W many:Int}(w:sA B m W)(hm:many≠0)(ht:∀i:Int,0<=i->i<m->cZ (gt B i)/\(gt B i).d<=60){i:Nat}(hi:i<m):vq (gt B (i:Int))=rq (oY B W i*many) (W*many):=by
 have:=(w.part ht hi).1.rq;rw[CN hm];exact this
theorem OH.aa1{g:List (List Int)}{B:List Fc}{m n:Nat}{W many:Int}(w:sA B m W)(ht:∀i:Int,0<=i->i<m->cZ (gt B i)/\(gt B i).d<=60)(hm:0<many)(hs:W*many<=1000000000000000000){x:List Int}(s:OH g (oY B W) m n many (W*many) x):qA g B m n (x.map (fun y=>fr y (W*many))):=by
 have sp:0<W*many:=Int.mul_pos w.pos hm;have hv:∀j:Nat,j<n->vq (gt (x.map (fun y=>fr y (W*many))) (j:Int))=rq (gt x (j:Int)) (W*many):=fun j hj=>by
  rw[wG _ x (by rw[s.len];exact hj)];obtain⟨r0,r1⟩:=s.uE j hj;exact OI om om om
 refine⟨by rw[List.length_map];exact s.len,fun j hj=>?_,fun i hi=>?_⟩
 ·rw[wG _ x (by rw[s.len];exact hj)]
  obtain⟨r0,r1⟩:=s.uE j hj;exact Jg r0 r1 hs
 ·obtain⟨c,hc⟩:=s.eqs i hi
  refine⟨-c,?_⟩;rw[dQ n (g:=fun j=>(Ext.el g i j:Rat)*rq (gt x (j:Int)) (W*many)) (fun j hj=>by rw[hv j hj]),tQ _ _ (show W*many≠0 by omega),Bk w (show many≠0 by omega) ht hi,jQ (l:=-c) (show W*many≠0 by omega),uS (show W*many≠0 by omega)]
  congr 1
  rw[Int.neg_mul,Int.mul_comm c];omega
def dm(D:Int)(q:Rat):Prop:=∃y:Int,q=rq y D
theorem dm.add{D:Int}{p q:Rat}(hD:D≠0)(a:dm D p)(b:dm D q):dm D (p+q):=by
 obtain⟨y,rfl⟩:=a;obtain⟨z,rfl⟩:=b;exact⟨y+z,uS hD⟩
theorem dm.sub{D:Int}{p q:Rat}(hD:D≠0)(a:dm D p)(b:dm D q):dm D (p-q):=by
 obtain⟨y,rfl⟩:=a;obtain⟨z,rfl⟩:=b;exact⟨y-z,Hq hD⟩
theorem dm.mul{D:Int}{q:Rat}(c:Int)(a:dm D q):dm D ((c:Rat)*q):=by
 obtain⟨y,rfl⟩:=a;exact⟨c*y,CM c y D⟩
theorem dm.int{D:Int}(hD:D≠0)(c:Int):dm D (c:Rat):=⟨c*D,jQ hD⟩
theorem dm.more{D c:Int}{q:Rat}(hc:c≠0)(a:dm D q):dm (D*c) q:=by
 obtain⟨y,rfl⟩:=a;exact⟨y*c,(CN hc).symm⟩
theorem dm.sum{D:Int}(hD:D≠0){f:Nat->Rat}:∀n,(∀k,k<n->dm D (f k))->dm D (dk f n)
 |0,_=>⟨0,by
  have:=jQ (l:=0) hD;rw[Int.zero_mul]at this;rw[<-this];rfl⟩
 |n+1,h=>(dm.sum hD n (fun k hk=>h k om)).add hD (h n om)
theorem dm.U4{D c:Int}{q:Rat}(hD:D≠0)(hc:c≠0)(a:dm D ((c:Rat)*q)):dm (D*c) q:=by
 obtain⟨y,hy⟩:=a;refine⟨y,?_⟩;have h1:=qw hD;have h2:=qw hc;unfold rq at hy ⊢;rw[Rat.intCast_mul];grind
theorem zr(f g:Nat->Rat):∀n,dk (fun k=>f k+g k) n=dk f n+dk g n
 |0=>by show(0:Rat)=0+0;grind
 |n+1=>by
  show dk (fun k=>f k+g k) n+(f n+g n)=dk f n+f n+(dk g n+g n);rw[zr f g n];grind
theorem zt(c:Rat)(f:Nat->Rat):∀n,dk (fun k=>c*f k) n=c*dk f n
 |0=>by show(0:Rat)=c*0;grind
 |n+1=>by
  show dk (fun k=>c*f k) n+c*f n=c*(dk f n+f n);rw[zt c f n];grind
theorem uX(f:Nat->Nat->Rat)(m:Nat):∀n,dk (fun i=>dk (fun j=>f i j) m) n=dk (fun j=>dk (fun i=>f i j) n) m
 |0=>by
  have:∀m,dk (fun _=>(0:Rat)) m=0:=fun m=>by
   induction m with
   |zero=>rfl
   |succ m ih=>show dk (fun _=>(0:Rat)) m+0=0;rw[ih];grind
  exact(this m).symm
 |n+1=>by
  show dk (fun i=>dk (fun j=>f i j) m) n+dk (fun j=>f n j) m=dk (fun j=>dk (fun i=>f i j) n+f n j) m;rw[uX f m n,zr]
theorem zu(c:Nat->Int)(q:Rat):∀n,dk (fun k=>(c k:Rat)*q) n=(Ext.aT c n:Rat)*q
 |0=>by show(0:Rat)=((0:Int):Rat)*q;rw[Rat.intCast_zero];grind
 |n+1=>by
  show dk (fun k=>(c k:Rat)*q) n+(c n:Rat)*q=((Ext.aT c n+c n:Int):Rat)*q;rw[zu c q n,Rat.intCast_add];grind
theorem bH.over{g:List (List Int)}{m n s:Nat}{A:Nat->Ext.aN}(a:bH g m n n s A){B:List Fc}{W:Int}(w:sA B m W)(ht:∀i:Int,0<=i->i<m->cZ (gt B i)/\(gt B i).d<=60){X:List Fc}(sx:qA g B m n X){k:Nat}(hk:k<n):dm W (dk (fun j=>(A k j:Rat)*vq (gt X (j:Int))) n):=by
 have hs:=a.sum;have wp:=w.pos;have e:dk (fun j=>(A k j:Rat)*vq (gt X (j:Int))) n=dk (fun t=>(A k (n+t):Rat)*dk (fun j=>(Ext.el g t j:Rat)*vq (gt X (j:Int))) n) m:=by
  rw[dQ n (g:=fun j=>dk (fun t=>(A k (n+t):Rat)*((Ext.el g t j:Rat)*vq (gt X (j:Int)))) m) (fun j hj=>by
   rw[a.tail (i:=k) om hj,<-zu];exact dQ m (fun t _=>by rw[Rat.intCast_mul];grind)),<-uX]
  exact dQ m (fun t _=>by rw[zt])
 rw[e];refine dm.sum om m (fun t Zu=>dm.mul _ ?_);obtain⟨z,hz⟩:=sx.eqs t Zu;rw[hz];exact dm.add om ⟨_,(w.part ht Zu).1.rq⟩ (dm.int om z)
theorem Jh{f:Nat->Rat}{k:Nat}:∀n,k<n->dk f n=f k+dk (fun j=>if j=k then 0 else f j) n
 |0,h=>om
 |n+1,h=>by
  show dk f n+f n=f k+(dk (fun j=>if j=k then 0 else f j) n+if n=k then 0 else f n);by_cases c:k=n
  ·subst c
   rw[if_pos rfl,dQ (f:=fun j=>if j=k then 0 else f j) (g:=f) k (fun j hj=>by rw[if_neg om])];grind
  ·rw[if_neg (show ¬n=k by omega),Jh (k:=k) n om]
   grind
theorem bH.S0{g:List (List Int)}{m n s:Nat}{A:Nat->Ext.aN}(a:bH g m n n s A){B:List Fc}{W:Int}(w:sA B m W)(ht:∀i:Int,0<=i->i<m->cZ (gt B i)/\(gt B i).d<=60){X:List Fc}(sx:qA g B m n X):∀d,d<=n->∃c:Int,c≠0/\c*Ext.Mk A (n-d)=Ext.Mk A n/\∀j:Nat,n-d<=j->j<n->dm (W*c) (vq (gt X (j:Int)))
 |0,_=>⟨1,by decide,by rw[Int.one_mul];rfl,fun j h1 h2=>om⟩
 |d+1,h=>by
  obtain⟨c,c0,c1,c2⟩:=bH.S0 a w ht sx d om;have wp:=w.pos;obtain⟨k,ek⟩:∃k,k=n-(d+1):=⟨_,rfl⟩;have e1:n-d=k+1:=om
  rw[<-ek];rw[e1]at c1 c2;have ap:=a.diag (i:=k) om;have D0:W*c≠0:=Int.mul_ne_zero om c0;refine⟨c*A k k,Int.mul_ne_zero c0 om,?_,fun j h1 h2=>?_⟩
  ·rw[<-c1]
   show c*A k k*Ext.Mk A k=c*(Ext.Mk A k*A k k);rw[Int.mul_assoc,Int.mul_comm (A k k)]
  ·rw[<-Int.mul_assoc]
   by_cases e:j=k
   ·subst e
    refine dm.U4 D0 om ?_;have h3:=a.over w ht sx (k:=j) h2;have h4:=(h3.more c0:dm (W*c) _);rw[Jh (k:=j) n h2]at h4;have h5:dm (W*c) (dk (fun i=>if i=j then 0 else(A j i:Rat)*vq (gt X (i:Int))) n):=dm.sum D0 n (fun i hi=>by
     show dm (W*c) (if i=j then 0 else(A j i:Rat)*vq (gt X (i:Int)));by_cases q:i=j
     ·rw[if_pos q]
      have:=dm.int D0 0;rw[Rat.intCast_zero]at this;exact this
     ·rw[if_neg q]
      by_cases l:i<j
      ·have z:A j i=0:=Ext.bD (w:=n+m) (by rw[a.wF h2];exact l)
       rw[z,Rat.intCast_zero];have:=dm.int D0 0;rw[Rat.intCast_zero]at this;rw[show(0:Rat)*vq (gt X (i:Int))=0 by grind];exact this
      ·exact dm.mul _ (c2 i om hi))
    have h6:=dm.sub D0 h4 h5;rw[show(A j j:Rat)*vq (gt X (j:Int))+dk (fun i=>if i=j then 0 else(A j i:Rat)*vq (gt X (i:Int))) n-dk (fun i=>if i=j then 0 else(A j i:Rat)*vq (gt X (i:Int))) n=(A j j:Rat)*vq (gt X (j:Int)) by grind]at h6;exact h6
   ·exact(c2 j om h2).more om
theorem bH.back{g:List (List Int)}{m n s:Nat}{A:Nat->Ext.aN}(a:bH g m n n s A){B:List Fc}{W:Int}(w:sA B m W)(ht:∀i:Int,0<=i->i<m->cZ (gt B i)/\(gt B i).d<=60){X:List Fc}(sx:qA g B m n X):∃x,OH g (oY B W) m n (Ext.Mk A n) (W*Ext.Mk A n) x/\X=x.map (fun y=>fr y (W*Ext.Mk A n)):=by
 obtain⟨c,c0,c1,c2⟩:=a.S0 w ht sx n (Nat.le_refl n);rw[Nat.sub_self]at c1 c2;have ec:c=Ext.Mk A n:=by rw[<-c1];show c=c*1;rw[Int.mul_one]
 have mp:=qy n (fun i hi=>a.diag hi);have sp:0<W*Ext.Mk A n:=Int.mul_pos w.pos mp;rw[ec]at c2;obtain⟨size,es⟩:∃z,z=W*Ext.Mk A n:=⟨_,rfl⟩;rw[<-es]at c2 sp ⊢;have:∃y:Nat->Int,∀j:Nat,j<n->vq (gt X (j:Int))=rq (y j) size:=by
  have hy:∀j:Nat,∃y:Int,j<n->vq (gt X (j:Int))=rq y size:=fun j=>by
   by_cases h:j<n
   ·obtain⟨y,hy⟩:=c2 j (Nat.zero_le j) h
    exact⟨y,fun _=>hy⟩
   ·exact⟨0,fun q=>absurd q h⟩
  exact⟨fun j=>(hy j).choose,fun j hj=>(hy j).choose_spec hj⟩
 obtain⟨y,hy⟩:=this;have hp:∀j:Nat,j<n->0<=y j/\y j<size/\gt X (j:Int)=fr (y j) size:=fun j hj=>Bj (sx.turn j hj) sp (hy j hj)
 have gy:∀j:Nat,j<n->gt (kM y n) (j:Int)=y j:=fun j hj=>gm y hj
 refine⟨kM y n,⟨bP y n,fun j hj=>?_,fun i hi=>?_⟩,?_⟩
 ·rw[gy j hj];exact⟨(hp j hj).1,(hp j hj).2.1⟩
 ·obtain⟨z,hz⟩:=sx.eqs i hi
  rw[dQ n (g:=fun j=>(Ext.el g i j:Rat)*rq (y j) size) (fun j hj=>by rw[hy j hj]),tQ _ _ (show size≠0 by omega),Bk w (show Ext.Mk A n≠0 by omega) ht hi,<-es,jQ (l:=z) (show size≠0 by omega),uS (show size≠0 by omega)]at hz;have h2:=(Hs (show size≠0 by omega)).1 hz;rw[Ext.aO n (f:=fun j=>Ext.el g i j*gt (kM y n) (j:Int)) (g:=fun j=>Ext.el g i j*y j) (fun j hj=>by rw[gy j hj]),h2];exact⟨-z,by rw[Int.mul_neg,Int.mul_comm size];omega⟩
 ·exact KU sx.len (by rw[List.length_map,bP]) (fun j hj=>by
   rw[wG _ _ (by rw[bP];exact hj),gy j hj];exact(hp j hj).2.2)
def Yr(n:Nat)(X Y:List Fc):Prop:=∃k:Nat,k<n/\(∀j:Nat,j<k->gt X (j:Int)=gt Y (j:Int))/\vq (gt X (k:Int))<vq (gt Y (k:Int))
structure aa2(g:List (List Int))(B:List Fc)(m n:Nat)(L:List (List Fc)):Prop where
 mem:∀X,X∈L↔qA g B m n X
 ord:L.Pairwise (Yr n)
theorem Rows.lt{α:Type}{enc:α->List Value}{es:Nat}{h:af}{a:Option Addr}{n:Nat}{l:List α}(p:Rows enc es h a n l):∀ad,a=some ad->ad.block<h.next:=fun ad cW=>by
 subst cW;exact p.cells.2.1
theorem Rows.dF{α:Type}{enc:α->List Value}{es:Nat}{h h':af}{a:Option Addr}{n:Nat}{l:List α}(p:Rows enc es h a n l)(hn:h.next<=h'.next)(hk:∀ad,a=some ad->h'.m.get ad.block=h.m.get ad.block):Rows enc es h' a n l:=by
 refine⟨?_,p.each,p.pos⟩;cases a with
 |none=>exact p.cells
 |some ad=>
  obtain⟨h1,h2,h3⟩:=p.cells;refine⟨h1,Nat.lt_of_lt_of_le h2 hn,?_⟩;unfold af.aL af.cells? at h3 ⊢;rw[hk ad rfl];exact h3
def S1(k:Hd):Prop:=0<k.n->k.c=k.n\/k.c=au 1 k.n
structure Ls(h0 h:af)(a:Option Addr)(N:Nat)(hd:List Hd)(g:List (List Int)):Prop where
 ext:Ext h0 h
 gr:rC nC 1 h a N hd g
 cap:∀y:Int,0<=y->y<N->S1 (gt hd y)
 fr:jY h0.next a
 rfr:∀y:Int,0<=y->y<N->jY h0.next (gt hd y).a
theorem Ls.more{h0 h h':af}{a:Option Addr}{N:Nat}{hd:List Hd}{g:List (List Int)}(t:Ls h0 h a N hd g)(e:Ext h h'):Ls h0 h' a N hd g:=⟨t.ext.trans e,t.gr.ext e,t.cap,t.fr,t.rfr⟩
theorem Ls.back{h0 h1 h:af}{a:Option Addr}{N:Nat}{hd:List Hd}{g:List (List Int)}(t:Ls h1 h a N hd g)(e:Ext h0 h1):Ls h0 h a N hd g:=
 ⟨e.trans t.ext,t.gr,t.cap,fun ad cW=>Nat.le_trans e.next (t.fr ad cW),fun y y0 y1 ad cW=>Nat.le_trans e.next (t.rfr y y0 y1 ad cW)⟩
structure CZ(h0 h:af)(a:Option Addr)(N c:Nat)(hd:List Hd)(g:List (List Int)):Prop where
 s:Ls h0 h a N hd g
 o8:nK h 1 a N c (hd.flatMap Hd.cells)
 Ll:∀ad,a=some ad->∀y:Int,0<=y->y<N->∀bd,(gt hd y).a=some bd->bd.block<ad.block
theorem CZ.sep{h0 h:af}{a:Option Addr}{N c:Nat}{hd:List Hd}{g:List (List Int)}(t:CZ h0 h a N c hd g):∀ad,a=some ad->∀y:Int,0<=y->y<N->∀bd,(gt hd y).a=some bd->bd.block≠ad.block:=fun ad cW y y0 y1 bd mg=>Nat.ne_of_lt (t.Ll ad cW y y0 y1 bd mg)
theorem CZ.more{h0 h h':af}{a:Option Addr}{N c:Nat}{hd:List Hd}{g:List (List Int)}(t:CZ h0 h a N c hd g)(e:Ext h h'):CZ h0 h' a N c hd g:=⟨t.s.more e,t.o8.ext e,t.Ll⟩
theorem CZ.nil(h:af):CZ h h none 0 0 [] []:=
 ⟨⟨.refl h,⟨Rows.nil h fF om,rfl,fun y y0 y1=>om⟩,fun y y0 y1=>om,.none _,fun y y0 y1=>om⟩,.nil _ _,fun ad cW=>by cases cW⟩
theorem wH{α:Type}[Inhabited α](l:List α)(x:α){i:Int}(i0:0<=i)(hi:i<=l.length):gt (l++[x]) i=if i<l.length then gt l i else x:=by
 unfold gt;rw[List.getD_eq_getElem?_getD,List.getD_eq_getElem?_getD];by_cases c:i<l.length
 ·rw[if_pos c,List.getElem?_append_left om]
 ·rw[if_neg c,show i.toNat=l.length by omega,List.getElem?_concat_length];rfl
theorem CZ.add{h0 h h':af}{a:Option Addr}{N c b':Nat}{hd:List Hd}{g:List (List Int)}(t:CZ h0 h a N c hd g){k:Hd}{r:List Int}(row:Rows nC 1 h k.a k.n r)(ck:S1 k)(fk:jY h0.next k.a)(sk:∀ad,a=some ad->∀bd,k.a=some bd->bd.block≠ad.block)
  (a':nK h' 1 (some ⟨b',0,none⟩) (N+1) (au 1 (N+1)) ((hd++[k]).flatMap Hd.cells)) (xe:Ext h0 h') (n':h.next<h'.next) (UG:h.next<b') (k':∀i,i<h.next->(∀ad,a=some ad->ad.block≠i)->h'.m.get i=h.m.get i) :
  CZ h0 h' (some ⟨b',0,none⟩) (N+1) (au 1 (N+1)) (hd++[k]) (g++[r]):=by
 have hl:hd.length=N:=t.s.gr.hd.len;have gl:=t.s.gr.len;have xq:=t.s.ext.next;have eh:∀y:Int,0<=y->y<((N+1:Nat):Int)->gt (hd++[k]) y=if y<N then gt hd y else k:=fun y y0 y1=>by
  rw[wH hd k y0 om,hl]
 have eg:∀y:Int,0<=y->y<((N+1:Nat):Int)->gt (g++[r]) y=if y<N then gt g y else r:=fun y y0 y1=>by
  rw[wH g r y0 om,gl]
 refine⟨⟨xe,⟨⟨a'.cells,fF,om⟩,by simp[gl],fun y y0 y1=>?_⟩,fun y y0 y1=>?_,fun ad cW=>by cases cW;show h0.next<=b';omega,fun y y0 y1=>?_⟩,a',fun ad cW y y0 y1 bd mg=>?_⟩
 ·rw[eh y y0 y1,eg y y0 y1]
  by_cases c:y<N
  ·rw[if_pos c,if_pos c]
   have q:=t.s.gr.row y y0 c;exact q.dF (Nat.le_of_lt n') (fun bd mg=>k' _ (q.lt bd mg) (fun ad cW=>(t.sep ad cW y y0 c bd mg).symm))
  ·rw[if_neg c,if_neg c]
   exact row.dF (Nat.le_of_lt n') (fun bd mg=>k' _ (row.lt bd mg) (fun ad cW=>(sk ad cW bd mg).symm))
 ·rw[eh y y0 y1]
  by_cases c:y<N
  ·rw[if_pos c];exact t.s.cap y y0 c
  ·rw[if_neg c];exact ck
 ·rw[eh y y0 y1]
  by_cases c:y<N
  ·rw[if_pos c];exact t.s.rfr y y0 c
  ·rw[if_neg c];exact fk
 ·cases cW
  rw[eh y y0 y1]at mg;show bd.block<b';by_cases c:y<N
  ·rw[if_pos c]at mg;have:=(t.s.gr.row y y0 c).lt bd mg;omega
  ·rw[if_neg c]at mg;have:=row.lt bd mg;omega
theorem Ji{α β:Type}(G:α->List β)(B:Nat)(h:∀x,(G x).length<=B):∀l:List α,(l.flatMap G).length<=l.length*B
 | []=>by simp
 |x :: l=>by
  have:=Ji G B h l;have:=h x;rw[List.flatMap_cons,List.length_append,List.length_cons,Nat.add_mul];omega
theorem oD.uniq{g:List (List Int)}{m n m' n':Nat}(a:oD g m n)(b:oD g m' n'):m=m'/\n=n':=by
 have h1:=a.len;have h2:=b.len;have h3:=a.row 0 om (by have:=a.m1;omega);have h4:=b.row 0 om (by have:=b.m1;omega);omega
structure F8(h:af)(g:List (List Int))(B:List Fc)(m n s:Nat)(A:Nat->Ext.aN)(W many size:Int)(pa qa:Option Addr)(bs:Nat->Nat):Prop where
 hM:oD g m n
 st:bH g m n n s A
 w:sA B m W
 ht:∀i:Int,0<=i->i<m->cZ (gt B i)/\(gt B i).d<=60
 hd:Rows Hd.cells 1 h pa n (kN bs (n+m) n)
 rows:∃hz,dK hz h m (n+m) bs A
 oY:Rows nC 1 h qa m (Au B W m)
 em:many=Ext.Mk A n
 m64:many<=64
 es:size=W*many
section
variable{h:af}{g:List (List Int)}{B:List Fc}{m n s:Nat}{A:Nat->Ext.aN}{W many size:Int}{pa qa:Option Addr}{bs:Nat->Nat}
theorem F8.more{h':af}(t:F8 h g B m n s A W many size pa qa bs)(e:Ext h h'):F8 h' g B m n s A W many size pa qa bs:=
 ⟨t.hM,t.st,t.w,t.ht,t.hd.ext e,by obtain⟨hz,r⟩:=t.rows;exact⟨hz,r.more e⟩,t.oY.ext e,t.em,t.m64,t.es⟩
theorem F8.KT(t:F8 h g B m n s A W many size pa qa bs):Ext.Aw A (gC A B W m n) size n:=by
 have:=t.st.KT (B:=B) t.w.pos;rw[<-t.em,<-t.es]at this;exact this
theorem F8.OF(t:F8 h g B m n s A W many size pa qa bs):0<W/\W<=12960000/\1<=many/\many<=64/\0<size/\size<=829440000:=by
 have h1:=t.w.pos;have h2:=t.w.gB t.hM.m4;have h3:=qy (A:=A) n (fun i hi=>t.st.diag hi);rw[<-t.em]at h3;have h4:=t.m64;have h5:W*many<=12960000*64:=Int.mul_le_mul h2 h4 om om;have h6:=Int.mul_pos h1 h3;have:=t.es;omega
theorem F8.lead(t:F8 h g B m n s A W many size pa qa bs){k:Nat}(hk:k<n):1<=A k k/\A k k<=64:=by
 have h1:=t.st.diag hk;have h2:=(t.KT).mk_le (k:=k+1) om;rw[<-t.em]at h2;have h3:A k k∣many:=Int.dvd_trans ⟨Ext.Mk A k,by show Ext.Mk A k*A k k=_;rw[Int.mul_comm]⟩ h2;have:=Int.le_of_dvd (by have:=t.OF;omega) h3;have:=t.m64;omega
end
theorem zv{α:Type}[Inhabited α](l:List α){i:Nat}{I:Int}(eI:I=i)(h:i<l.length):l.take (i+1)=l.take i++[gt l I]:=by
 rw[List.take_succ_eq_append_getElem h]
 congr 2
 unfold gt;rw[eI,show((i:Int)).toNat=i from rfl,List.getD_eq_getElem?_getD,List.getElem?_eq_getElem h];rfl
theorem Fu(a:Int)(x:List Int):gt (a :: x) ((0:Nat):Int)=a:=rfl
theorem tU(a:Int)(x:List Int)(k:Nat):gt (a :: x) ((k+1:Nat):Int)=gt x (k:Int):=rfl
theorem Fv:∀{n:Nat} {x y:List Int},x.length=n->y.length=n->LL.lt x y->∃k:Nat,k<n/\(∀j:Nat,j<k->gt x (j:Int)=gt y (j:Int))/\gt x (k:Int)<gt y (k:Int)
 |0,[],[],_,_,h=>by have:fR [] []<0:=h;simp[fR]at this
 |0,_ :: _,_,h,_,_=>by simp at h
 |0,[],_ :: _,_,h,_=>by simp at h
 |n+1,[],_,h,_,_=>by simp at h
 |n+1,_ :: _,[],_,h,_=>by simp at h
 |n+1,a :: x,b :: y,hx,hy,h=>by
  have h':fR (a :: x) (b :: y)<0:=h;unfold fR at h';by_cases c:a<b
  ·exact⟨0,om,fun j hj=>om,c⟩
  ·by_cases d:b<a
   ·rw[if_neg c,if_pos d]at h';omega
   ·rw[if_neg c,if_neg d]at h'
    obtain⟨k,k0,k1,k2⟩:=Fv (n:=n) (by simpa using hx) (by simpa using hy) h';refine⟨k+1,om,fun j hj=>?_,?_⟩
    ·cases j with
     |zero=>rw[Fu,Fu];omega
     |succ j=>rw[tU,tU];exact k1 j om
    ·rw[tU,tU];exact k2
theorem Ys{a b D:Int}(hD:0<D)(h:a<b):rq a D<rq b D:=by
 unfold rq;have h1:(0:Rat)<(D:Rat):=by exact_mod_cast hD
 have h2:(a:Rat)<(b:Rat):=by exact_mod_cast h
 rw[Rat.div_def,Rat.div_def];exact Rat.mul_lt_mul_of_pos_right h2 (Rat.inv_pos.2 h1)
theorem bH.Yt{g:List (List Int)}{m n s:Nat}{A:Nat->Ext.aN}(hM:oD g m n)(a:bH g m n n s A):((Ext.Dv g m n n:Nat):Int)=Ext.Mk A n:=by
 have n4:=hM.n4;have e:∀d:Nat,d∣Ext.Dv g m n n↔d∣(Ext.nk (fun i=>A i (Ext.aj (n+m) (A i))) n).natAbs:=fun d=>
  ((Ext.On n4 d).trans (a.minors (d:Int))).trans (a.ech.full n4 d)
 have e2:Ext.Dv g m n n=(Ext.nk (fun i=>A i (Ext.aj (n+m) (A i))) n).natAbs:=Nat.dvd_antisymm ((e _).1 (Nat.dvd_refl _)) ((e _).2 (Nat.dvd_refl _));have e3:∀k,k<=n->Ext.nk (fun i=>A i (Ext.aj (n+m) (A i))) k=Ext.Mk A k:=by
  intro k
  induction k with
  |zero=>intro _;rfl
  |succ k ih=>
   intro hk;show Ext.nk _ k*A k (Ext.aj (n+m) (A k))=Ext.Mk A k*A k k;rw[ih om,a.wF om]
 rw[e2,e3 n (Nat.le_refl n)];have:=qy (A:=A) n (fun i hi=>a.diag hi);omega
def F9(size:Int)(x:List Int):List Fc:=x.map (fun y=>fr y size)
theorem zw{size:Int}{x:List Int}{n j:Nat}(hx:x.length=n)(h:j<n):gt (F9 size x) (j:Int)=fr (gt x (j:Int)) size:=wG _ x om
theorem Ri{size:Int}(s0:0<size)(s1:size<=1000000000000000000){n:Nat}{x y:List Int}(hx:x.length=n)(hy:y.length=n)(rx:∀j:Nat,j<n->0<=gt x (j:Int)/\gt x (j:Int)<size)(ry:∀j:Nat,j<n->0<=gt y (j:Int)/\gt y (j:Int)<size)(h:LL.lt x y):Yr n (F9 size x) (F9 size y):=by
 obtain⟨k,k0,k1,k2⟩:=Fv hx hy h;refine⟨k,k0,fun j hj=>?_,?_⟩
 ·rw[zw hx om,zw hy om,k1 j hj]
 ·have:=rx k k0
  have:=ry k k0;rw[zw hx k0,zw hy k0,OI om om om,OI om om om];exact Ys s0 k2
structure V4(X:List Fc)(n:Nat)(D:Int)(z:Nat->Int):Prop where
 pos:0<D
 dR:D<=1000000000
 fx:∀j:Nat,j<n->0<=z j/\z j<D/\hH (gt X (j:Int)).n (gt X (j:Int)).d (rq (z j) D)
structure Fw(g:List (List Int))(B:List Fc)(m n:Nat)(L:List (List Fc)):Prop where
 rel:kO g B m n
 inv:oX g m n n
 gB:Ext.Dv g m n n<=64
 all:aa2 g B m n L
 len:L.length=Ext.Dv g m n n
 siz:∃D:Int,∀X,X∈L->∃y,V4 X n D y
def OL(g:List (List Int))(B:List Fc)(m n:Nat)(e:Int):Prop:=(¬kO g B m n/\e=6)\/(kO g B m n/\∃r,oX g m n r/\((r<n/\e=24)\/(r=n/\64<Ext.Dv g m n n/\e=4)))
theorem Fw.of{g:List (List Int)}{B:List Fc}{m n s:Nat}{A:Nat->Ext.aN}{W:Int}(hM:oD g m n)(a:bH g m n n s A)(hR:kO g B m n)(ir:oX g m n n)(gB:Ext.Dv g m n n<=64)(w:sA B m W)(ht:∀i:Int,0<=i->i<m->cZ (gt B i)/\(gt B i).d<=60)(hs9:W*Ext.Mk A n<=1000000000){l:List (List Int)}(p:l.Perm (Ext.nA A (gC A B W m n) (W*Ext.Mk A n) n n))(o:l.Pairwise LL.lt):Fw g B m n (l.map (F9 (W*Ext.Mk A n))):=by
 have mp:=qy (A:=A) n (fun i hi=>a.diag hi);have sp:0<W*Ext.Mk A n:=Int.mul_pos w.pos mp;have hs:W*Ext.Mk A n<=1000000000000000000:=om
 have KT:=a.KT (B:=B) w.pos;obtain⟨r1,_,_,r4⟩:=Ext.uT KT n (Nat.le_refl n);rw[Nat.sub_self]at r1 r4;have mem:∀x,x∈l↔OH g (oY B W) m n (Ext.Mk A n) (W*Ext.Mk A n) x:=fun x=>(p.mem_iff.trans (r1 x)).trans (a.aa0 w hR x)
 refine⟨hR,ir,gB,⟨fun X=>?_,?_⟩,?_,⟨W*Ext.Mk A n,fun X hX=>?_⟩⟩
 ·rw[List.mem_map]
  constructor
  ·rintro⟨x,hx,rfl⟩
   exact((mem x).1 hx).aa1 w ht mp hs
  ·intro sx
   obtain⟨x,h1,h2⟩:=a.back w ht sx;exact⟨x,(mem x).2 h1,h2.symm⟩
 ·rw[List.pairwise_map]
  refine o.imp_of_mem ?_;intro x y hx hy h;have sx:=(mem x).1 hx;have sy:=(mem y).1 hy;exact Ri sp hs sx.len sy.len sx.uE sy.uE h
 ·rw[List.length_map,p.length_eq]
  have h1:=a.Yt hM;have h2:Ext.Mk A 0=1:=rfl;rw[h2,Int.mul_one]at r4;omega
 ·obtain⟨x,hx,rfl⟩:=List.mem_map.1 hX
  have sx:=(mem x).1 hx;refine⟨fun j=>gt x (j:Int),sp,hs9,fun j hj=>?_⟩;obtain⟨q0,q1⟩:=sx.uE j hj;rw[zw sx.len hj];exact⟨q0,q1,Jf om om om⟩
theorem Bl:∀n,dk (fun _=>(0:Rat)) n=0
 |0=>rfl
 |n+1=>by show dk (fun _=>(0:Rat)) n+0=0;rw[Bl n];grind
theorem Bm(f:Nat->Int):∀n,dk (fun k=>(f k:Rat)) n=((Ext.aT f n:Int):Rat)
 |0=>by show(0:Rat)=((0:Int):Rat);rw[Rat.intCast_zero]
 |n+1=>by show dk (fun k=>(f k:Rat)) n+(f n:Rat)=((Ext.aT f n+f n:Int):Rat);rw[Bm f n,Rat.intCast_add]
theorem kO.iff{g:List (List Int)}{B:List Fc}{m n:Nat}(ht:∀i:Int,0<=i->i<m->cZ (gt B i)/\(gt B i).d<=60):kO g B m n↔∀u,Ja g m n u->∃z:Int,dk (fun i=>(u i:Rat)*vq (gt B (i:Int))) m=(z:Rat):=by
 have key:∀W,sA B m W->∀u:Nat->Int,dk (fun i=>(u i:Rat)*vq (gt B (i:Int))) m=rq (Ext.aT (fun i=>u i*oY B W i) m) W:=fun W w u=>by
  have wp:=w.pos;rw[<-tQ u (oY B W) (show W≠0 by omega) m];exact dQ m (fun i hi=>by rw[show vq (gt B (i:Int))=rq (oY B W i) W from(w.part ht hi).1.rq])
 constructor
 ·intro h u hu
  obtain⟨W,w⟩:=sA.ex ht;have wp:=w.pos;obtain⟨c,hc⟩:=Int.dvd_of_emod_eq_zero (h W w u hu);refine⟨c,?_⟩;rw[key W w u,hc,jQ (l:=c) (show W≠0 by omega),Int.mul_comm]
 ·intro h W w u hu
  have wp:=w.pos;obtain⟨z,hz⟩:=h u hu;rw[key W w u,jQ (l:=z) (show W≠0 by omega)]at hz;have:=(Hs (show W≠0 by omega)).1 hz;rw[this];exact Int.emod_eq_zero_of_dvd ⟨z,Int.mul_comm _ _⟩
theorem oD.chk{g:List (List Int)}{B:List Fc}{m n:Nat}(h:oD g m n)(hl:B.length=m)(ht:∀i:Int,0<=i->i<m->cZ (gt B i)/\(gt B i).d<=60):dB g B 0:=by
 have m1:=h.m1;have m4:=h.m4;have n1:=h.n1;have n4:=h.n4;have ln:=h.len;refine .inr (.inl ⟨fun q=>?_,⟨om,by rw[h.row 0 om om];omega,om,fun i i0 i1=>by rw[h.row i i0 om,h.row 0 om om],fun i i0 i1 j j0 j1=>?_,fun i i0 i1=>ht i i0 om⟩,rfl⟩)
 ·rcases q with q|⟨i,i0,i1,q⟩
  ·omega
  ·rw[h.row i i0 om]at q;omega
 ·have:=h.nine i j
  omega
theorem Rj{S D:Int}(hD:0<D){f:Fc}(hf:cZ f){nn dd:Int}(q:hH nn dd (rq (S % D) D)):(nn=f.n/\dd=f.d)↔∃z:Int,rq S D=vq f+(z:Rat):=by
 have D0:D≠0:=om
 rw[UK q hf.is];constructor
 ·intro e
  refine⟨S / D,?_⟩;rw[<-e,jQ (l:=S / D) D0,uS D0]
  congr 1
  have:=Int.emod_add_mul_ediv S D;rw[Int.mul_comm]at this;exact this.symm
 ·rintro⟨z,hz⟩
  have e:vq f=rq (S-z*D) D:=by
   rw[<-Hq D0,<-jQ D0,hz];grind
  obtain⟨a,b,_⟩:=Bj hf hD e;rw[e]
  congr 1
  rw[<-Int.emod_eq_of_lt a b,Int.sub_mul_emod_self_right]
theorem qA.iff{g:List (List Int)}{B X:List Fc}{m n:Nat}{D:Int}{z:Nat->Int}(s:V4 X n D z)(hl:X.length=n)(ht:∀j:Nat,j<n->cZ (gt X (j:Int))):qA g B m n X↔∀i:Nat,i<m->∃c:Int,rq (Ext.aT (fun j=>Ext.el g i j*z j) n) D=vq (gt B (i:Int))+(c:Rat):=by
 have D0:D≠0:=by have:=s.pos;omega
 have key:∀i:Nat,dk (fun j=>(Ext.el g i j:Rat)*vq (gt X (j:Int))) n=rq (Ext.aT (fun j=>Ext.el g i j*z j) n) D:=fun i=>by
  rw[dQ n (g:=fun j=>(Ext.el g i j:Rat)*rq (z j) D) (fun j hj=>by
   have h1:=(ht j hj).is;have h2:=(s.fx j hj).2.2;rw[h1.uniq h2]),tQ _ _ D0]
 constructor
 ·intro h i hi
  obtain⟨c,hc⟩:=h.eqs i hi;rw[key i]at hc;exact⟨c,hc⟩
 ·intro h
  refine⟨hl,ht,fun i hi=>?_⟩;rw[key i];exact h i hi
theorem OM{c y D:Int}(h9:c.natAbs<=9)(y0:0<=y)(y1:y<D)(hD:D<=1000000000):(c*y).natAbs<=9000000000:=by
 rw[Int.natAbs_mul];have:y.natAbs<=1000000000:=om
 calc c.natAbs*y.natAbs<=9*1000000000:=Nat.mul_le_mul h9 this
  _=9000000000:=rfl
def ma(m:Nat):List Fc:=kM (fun _=>(⟨0,1⟩:Fc)) m
theorem nB:cZ ⟨0,1⟩:=by
 have h:=Jg (a:=0) (b:=1) (by decide) (by decide) (by decide);have e:=(Jf (a:=0) (b:=1) (by decide) (by decide) (by decide));have:fr 0 1=⟨0,1⟩:=by
  have k:hH 0 1 (rq 0 1):=by
   have:=wD (n:=0) om om;rw[Hr];exact this
  exact OJ (e.1.trans k.1.symm) (e.2.1.trans k.2.1.symm)
 rw[<-this];exact h
theorem Jj:vq ⟨0,1⟩=((0:Int):Rat):=by show rq 0 1=_;rw[Hr]
theorem zx{g:List (List Int)}{m n:Nat}(hM:oD g m n):dB g (ma m) 0:=
 hM.chk (bP _ _) (fun i i0 i1=>by
  obtain⟨j,rfl⟩:∃j:Nat,i=j:=⟨i.toNat,om⟩;have e:gt (ma m) (j:Int)=⟨0,1⟩:=gm _ om;rw[e];exact⟨nB,by decide⟩)
theorem qA.Q3{g:List (List Int)}{B X:List Fc}{m n:Nat}(ht:∀i:Int,0<=i->i<m->cZ (gt B i)/\(gt B i).d<=60)(h:qA g B m n X):kO g B m n:=by
 refine(kO.iff ht).2 (fun u hu=>?_);have hz:∀i:Nat,∃z:Int,i<m->dk (fun j=>(Ext.el g i j:Rat)*vq (gt X (j:Int))) n=vq (gt B (i:Int))+(z:Rat):=fun i=>by
  by_cases c:i<m
  ·obtain⟨z,hz⟩:=h.eqs i c;exact⟨z,fun _=>hz⟩
  ·exact⟨0,fun q=>absurd q c⟩
 obtain⟨w,hw⟩:∃w:Nat->Int,∀i,i<m->dk (fun j=>(Ext.el g i j:Rat)*vq (gt X (j:Int))) n=vq (gt B (i:Int))+(w i:Rat):=⟨fun i=>(hz i).choose,fun i hi=>(hz i).choose_spec hi⟩;refine⟨- Ext.aT (fun i=>u i*w i) m,?_⟩;have e1:dk (fun i=>(u i:Rat)*vq (gt B (i:Int))) m+((Ext.aT (fun i=>u i*w i) m:Int):Rat)=0:=by
  rw[<-Bm,<-zr];have:dk (fun i=>(u i:Rat)*vq (gt B (i:Int))+((u i*w i:Int):Rat)) m=dk (fun i=>dk (fun j=>(u i:Rat)*((Ext.el g i j:Rat)*vq (gt X (j:Int)))) n) m:=dQ m (fun i hi=>by
   rw[zt,hw i hi,Rat.intCast_mul];grind)
  rw[this,uX];rw[dQ n (g:=fun _=>(0:Rat)) (fun j hj=>?_),Bl];have e2:=hu j hj;rw[dQ m (g:=fun i=>((u i*Ext.el g i j:Int):Rat)*vq (gt X (j:Int))) (fun i _=>by rw[Rat.intCast_mul];grind),zu,e2,Rat.intCast_zero,Rat.zero_mul]
 rw[Rat.intCast_neg];grind
theorem ON{α:Type}[Inhabited α](l:List α)(i:Int):gt l i∈l\/gt l i=default:=by
 unfold gt;rw[List.getD_eq_getElem?_getD];by_cases c:i.toNat<l.length
 ·left;rw[List.getElem?_eq_getElem c];exact List.getElem_mem _
 ·right;rw[List.getElem?_eq_none om];rfl
theorem zy{g:List (List Int)}{m n:Nat}(m1:1<=m)(m4:m<=4)(n1:1<=n)(n4:n<=4)(len:g.length=m)(h:(g.all fun r=>r.length == n && r.all fun x=>decide (x.natAbs<=9))=true):oD g m n:=by
 rw[List.all_eq_true]at h;refine⟨m1,m4,n1,n4,len,fun i i0 i1=>?_,fun i j=>?_⟩
 ·have hm:gt g i∈g:=by
   unfold gt;rw[List.getD_eq_getElem?_getD,List.getElem?_eq_getElem (show i.toNat<g.length by omega)];exact List.getElem_mem _
  have:=h _ hm;simp only[Bool.and_eq_true,beq_iff_eq]at this;exact this.1
 ·rcases ON g i with q|q
  ·have:=h _ q
   simp only[Bool.and_eq_true,beq_iff_eq,List.all_eq_true,decide_eq_true_eq]at this;rcases ON (gt g i) j with w|w
   ·exact this.2 _ w
   ·rw[w];decide
  ·rw[q]
   rcases ON (default:List Int) j with w|w
   ·exact absurd w (List.not_mem_nil)
   ·rw[w];decide
theorem oF{g:List (List Int)}(h1:g.length<=4)(h2:(g.all fun r=>decide (r.length<=4))=true):¬Hj g:=by
 rw[List.all_eq_true]at h2;rintro(q|⟨i,i0,i1,q⟩)
 ·omega
 ·have hm:gt g i∈g:=by
   unfold gt;rw[List.getD_eq_getElem?_getD,List.getElem?_eq_getElem (show i.toNat<g.length by omega)];exact List.getElem_mem _
  have:=h2 _ hm;simp only[decide_eq_true_eq]at this;omega
def z1:Fc:=⟨0,1⟩
theorem aa3:dB [] [] 8:=.inr (.inr ⟨oF (by decide) (by decide),fun q=>by have:=q.m1;simp at this,rfl⟩)
theorem aa4:dB [[]] [z1] 8:=.inr (.inr ⟨oF (by decide) (by decide),fun q=>by have:=q.n1;revert this;decide,rfl⟩)
theorem aa5:dB [[1]] [] 8:=.inr (.inr ⟨oF (by decide) (by decide),fun q=>by have:=q.len;simp at this,rfl⟩)
theorem aa6:dB [[1],[1,2]] [z1,z1] 8:=.inr (.inr ⟨oF (by decide) (by decide),fun q=>by have:=q.row 1 (by decide) (by decide);revert this;decide,rfl⟩)
theorem aa7:dB [[10]] [z1] 8:=.inr (.inr ⟨oF (by decide) (by decide),fun q=>by have:=q.UC 0 (by decide) (by decide) 0 (by decide) (by decide);revert this;decide,rfl⟩)
theorem aa8:dB [[1]] [⟨1,61⟩] 8:=.inr (.inr ⟨oF (by decide) (by decide),fun q=>by have:=(q.turn 0 (by decide) (by decide)).2;revert this;decide,rfl⟩)
theorem aa9:dB [[1]] [⟨1,1⟩] 8:=.inr (.inr ⟨oF (by decide) (by decide),fun q=>by have:=(q.turn 0 (by decide) (by decide)).1.2.2;revert this;decide,rfl⟩)
theorem aba:dB [[1]] [⟨-1,2⟩] 8:=.inr (.inr ⟨oF (by decide) (by decide),fun q=>by have:=(q.turn 0 (by decide) (by decide)).1.2.1;revert this;decide,rfl⟩)
theorem abb:dB [[1]] [⟨2,4⟩] 8:=.inr (.inr ⟨oF (by decide) (by decide),fun q=>by
  have h:=(q.turn 0 (by decide) (by decide)).1.1;have h2:=h.is;have e:vq ⟨2,4⟩=rq 1 2:=by
   show rq 2 4=rq 1 2;exact(Fk (by decide) (by decide)).2 (by decide)
  have h3:hH 2 4 (rq 1 2):=by rw[<-e];exact h2
  have h4:=h3.2.1;rw[zi]at h4
  revert h4;decide +kernel,rfl⟩)
theorem abc:dB [[],[],[],[],[]] [] 4:=.inl ⟨.inl (by decide),rfl⟩
theorem wide:dB [[0,0,0,0,0]] [z1] 4:=.inl ⟨.inr ⟨0,by decide,by decide,by decide⟩,rfl⟩
theorem rR:oD [[0,0]] 1 2:=zy (by decide) (by decide) (by decide) (by decide) rfl (by decide)
theorem Jk:oD [[0]] 1 1:=zy (by decide) (by decide) (by decide) (by decide) rfl (by decide)
theorem Jl:oD [[9,0],[0,9]] 2 2:=zy (by decide) (by decide) (by decide) (by decide) rfl (by decide)
theorem C4:oD [[8,0],[0,8]] 2 2:=zy (by decide) (by decide) (by decide) (by decide) rfl (by decide)
theorem Jm:oD [[1,1],[1,-1]] 2 2:=zy (by decide) (by decide) (by decide) (by decide) rfl (by decide)
theorem uY:cZ ⟨1,2⟩:=by
 have k:hH 1 2 (rq 1 2):=by
  rw[zi];exact⟨by decide +kernel,by decide +kernel,by unfold fits;decide +kernel⟩
 exact⟨k.ok,by decide,by decide⟩
theorem Fx:dB [[0]] [⟨1,2⟩] 0:=Jk.chk rfl (fun i i0 i1=>by
 obtain rfl:i=0:=om
 exact⟨uY,by decide⟩)
theorem zz:dB [[1,1],[1,-1]] [z1,⟨1,2⟩] 0:=Jm.chk rfl (fun i i0 i1=>by
 have:i=0\/i=1:=om
 rcases this with rfl|rfl
 ·exact⟨nB,by decide⟩
 ·exact⟨uY,by decide⟩)
theorem rk{g:List (List Int)}{m n:Nat}(hM:oD g m n):kO g (ma m) m n:=by
 have s:V4 (ma n) n 1 (fun _=>0):=⟨by decide,by decide,fun j hj=>⟨by decide,by decide,by
  have e:gt (ma n) (j:Int)=⟨0,1⟩:=gm _ hj;rw[e];exact nB.is⟩⟩
 have sol:qA g (ma m) m n (ma n):=(qA.iff s (bP _ _) (fun j hj=>by
  have e:gt (ma n) (j:Int)=⟨0,1⟩:=gm _ hj;rw[e];exact nB)).2 (fun i hi=>⟨0,by
  have e:gt (ma m) (i:Int)=⟨0,1⟩:=gm _ hi;rw[e,Jj,Ext.aO n (g:=fun _=>(0:Int)) (fun _ _=>Int.mul_zero _),Ext.mS,Hr];grind⟩)
 exact sol.Q3 (fun i i0 i1=>by
  obtain⟨j,rfl⟩:∃j:Nat,i=j:=⟨i.toNat,om⟩;have e:gt (ma m) (j:Int)=⟨0,1⟩:=gm _ om;rw[e];exact⟨nB,by decide⟩)
theorem tV : ¬ kO [[0]] [⟨1, 2⟩] 1 1 := fun h => by
  obtain ⟨z, hz⟩ := (kO.iff (fun i i0 i1 => (by omega : i = 0) ▸ ⟨uY, by decide⟩)).1 h (fun _ => 1) (fun j hj => (by omega : j = 0) ▸ rfl)
  have e : dk (fun i => (((1 : Int) : Int) : Rat) * vq (gt [(⟨1, 2⟩ : Fc)] (i : Int))) 1 = rq 1 2 := by
    show (0 : Rat) + ((1 : Int) : Rat) * rq 1 2 = rq 1 2
    rw [Rat.intCast_one]; grind
  rw [e, jQ (l := z) (d := 2) (by decide)] at hz
  have := (Hs (by decide)).1 hz
  omega
theorem Rk:Ext.Dv [[0,0]] 1 2 1=0:=by decide +kernel
theorem OO:Ext.Dv [[9,0],[0,9]] 2 2 1=9:=by decide +kernel
theorem Fy:Ext.Dv [[9,0],[0,9]] 2 2 2=81:=by decide +kernel
theorem KV:Ext.Dv [[8,0],[0,8]] 2 2 1=8:=by decide +kernel
theorem uZ:Ext.Dv [[8,0],[0,8]] 2 2 2=64:=by decide +kernel
theorem qB{r:Nat}(ir:oX [[0,0]] 1 2 r):r=0:=by
 by_cases c:r=0
 ·exact c
 ·exact absurd Rk (ir.nz 0 om)
theorem Jn{g:List (List Int)}(h1:Ext.Dv g 2 2 1≠0)(h2:Ext.Dv g 2 2 2≠0):oX g 2 2 2:=⟨by decide,by decide,fun k hk=>by
 have:k=0\/k=1:=om
 rcases this with rfl|rfl
 ·exact h1
 ·exact h2,.inl rfl⟩
theorem Fz{e:Int}{L:List (List Fc)}(h:(e=0/\Fw [[9,0],[0,9]] (ma 2) 2 2 L)\/OL [[9,0],[0,9]] (ma 2) 2 2 e):e=4:=by
 rcases h with ⟨_,ag⟩|ae
 ·have:=ag.gB;rw[Fy]at this;omega
 ·rcases ae with ⟨q,_⟩|⟨_,r,ir,q⟩
  ·exact absurd (rk Jl) q
  ·obtain rfl:=ir.uniq (Jn (by rw[OO];decide) (by rw[Fy];decide))
   rcases q with ⟨q,_⟩|⟨_,_,q⟩
   ·omega
   ·exact q
theorem KW{e:Int}(ae:OL [[8,0],[0,8]] (ma 2) 2 2 e):False:=by
 rcases ae with ⟨q,_⟩|⟨_,r,ir,q⟩
 ·exact absurd (rk C4) q
 ·obtain rfl:=ir.uniq (Jn (by rw[KV];decide) (by rw[uZ];decide))
  rcases q with ⟨q,_⟩|⟨_,q,_⟩
  ·omega
  ·rw[uZ]at q;omega
theorem FA{e:Int}{L:List (List Fc)}(h:(e=0/\Fw [[0,0]] (ma 1) 1 2 L)\/OL [[0,0]] (ma 1) 1 2 e):e=24:=by
 rcases h with ⟨_,ag⟩|ae
 ·have:=qB ag.inv;omega
 ·rcases ae with ⟨q,_⟩|⟨_,r,ir,q⟩
  ·exact absurd (rk rR) q
  ·obtain rfl:=qB ir
   rcases q with ⟨_,q⟩|⟨q,_,_⟩
   ·exact q
   ·omega
theorem OP{e:Int}{L:List (List Fc)}(h:(e=0/\Fw [[0]] [⟨1,2⟩] 1 1 L)\/OL [[0]] [⟨1,2⟩] 1 1 e):e=6:=by
 rcases h with ⟨_,ag⟩|ae
 ·exact absurd ag.rel tV
 ·rcases ae with ⟨_,q⟩|⟨q,_⟩
  ·exact q
  ·exact absurd q tV
def Z5:Fc:=⟨1,4⟩
def q34:Fc:=⟨3,4⟩
def q74:Fc:=⟨7,4⟩
theorem Rm:hH 1 4 (rq 1 4)/\hH 3 4 (rq 3 4):=by
 constructor
 ·rw[zi]
  exact⟨by decide +kernel,by decide +kernel,by unfold fits;decide +kernel⟩
 ·rw[zi]
  exact⟨by decide +kernel,by decide +kernel,by unfold fits;decide +kernel⟩
theorem Jo:V4 [q34,Z5] 2 4 (fun j=>if j=0 then 3 else 1):=⟨by decide,by decide,fun j hj=>by
 have:j=0\/j=1:=om
 rcases this with rfl|rfl
 ·exact⟨by decide,by decide,Rm.2⟩
 ·exact⟨by decide,by decide,Rm.1⟩⟩
theorem Rn:qA [[1,1],[1,-1]] [z1,⟨1,2⟩] 2 2 [q34,Z5]:=by
 refine(qA.iff Jo rfl (fun j hj=>?_)).2 (fun i hi=>?_)
 ·have:j=0\/j=1:=om
  rcases this with rfl|rfl
  ·exact⟨Rm.2.ok,by decide,by decide⟩
  ·exact⟨Rm.1.ok,by decide,by decide⟩
 ·have:i=0\/i=1:=om
  rcases this with rfl|rfl
  ·refine⟨1,?_⟩
   show rq 4 4=vq ⟨0,1⟩+((1:Int):Rat);rw[Jj,jQ (l:=1) (d:=4) (by decide),Rat.intCast_zero];show rq 4 4=0+rq 4 4;grind
  ·refine⟨0,?_⟩
   show rq 2 4=rq 1 2+((0:Int):Rat);rw[Rat.intCast_zero,(Fk (by decide) (by decide)).2 (show(2:Int)*2=1*4 by decide)];grind
theorem U5{B:List Fc}:¬qA [[1,1],[1,-1]] B 2 2 [Z5]:=fun q=>by have:=q.len;simp at this
theorem Jp:¬cZ q74:=fun q=>by have:=q.2.2;revert this;decide
theorem Rp{B:List Fc}:¬qA [[1,1],[1,-1]] B 2 2 [q74,Z5]:=fun q=>Jp (q.turn 0 om)
theorem OQ{r s:Nat}{A:Nat->Ext.aN}(a:bH [[0,0]] 1 2 r s A):r=0/\s=1/\A 0 2=1:=by
 obtain rfl:=qB (a.Ye rR);obtain rfl:s=1:=by have:=a.sum;omega
 refine⟨rfl,rfl,?_⟩;obtain⟨y,hy⟩:=a.Q3 (u:=fun _=>1) (fun j hj=>by
  have:j=0\/j=1:=om
  rcases this with rfl|rfl<;>rfl)
 have h1:(1:Int)=0+y 0*A (0+0) (2+0):=hy 0 om;rw[Int.zero_add]at h1;have hl:=a.hi 0 om om;have dV:=a.N6.lt 0 om;have hp:=a.N6.pos 0 om;have e:Ext.aj (2+1) (A 0)=2:=om
 rw[e]at hp;have hd:A 0 2∣1:=⟨y 0,by rw[Int.mul_comm];exact h1⟩;have:=Int.le_of_dvd (by decide) hd;omega
theorem OR{D:Int}(hD:0<D):hH 0 1 (rq ((0:Int) % D) D):=by
 rw[Int.zero_emod];have e:rq 0 D=((0:Int):Rat):=by rw[jQ (l:=0) (show D≠0 by omega),Int.zero_mul]
 rw[e];exact wD om om
variable{F:bg}{call head arith cmp a0 fP b0 d0 f0 g0 l0 ofNat n0 place o0 nz t0 rd wr u0 next v0 nat w0 x0 a1 g1 t1 u1 v1 part d2 f2 g2 j2 o2 aH p2 s2 lt ne u2 v2 c3 yn uE d3 f3 g3 i3 j3:_}(hA:AP F ⟨call,head,arith,cmp,a0,fP,b0,d0,f0,g0,l0,ofNat,n0,place,o0,nz,t0,rd,wr,u0,next,v0,nat,w0,x0,a1,g1,t1,u1,v1,part,d2,f2,g2,j2,o2,aH,p2,s2,lt,ne,u2,v2,c3,yn,uE,d3,f3,g3,i3,j3⟩)
include hA
theorem OS{h:af}(aq:h.low<=h.next){h0:af}{m n r s pc qc:Nat}{pa qa:Option Addr}{rb:Nat->Nat}{g:List (List Int)}{B:List Fc}{A:Nat->Ext.aN}(hM:oD g m n)(a:bH g m n r s A)(ht:∀i:Int,0<=i->i<m->cZ (gt B i)/\(gt B i).d<=60){W:Int}(w:sA B m W)(hp:Rows nC 1 h pa m (Au B W m))(hr:Fh h0 h s m qa qc rb (fun y j=>A (r+y) (n+j))){S:Int}(eS:S=s){c1:List Value}{Q:Exit->SS->Prop}
  (lM:(¬∀i,i<s->Ext.aT (fun j=>A (r+i) (n+j)*oY B W j) m % W=0)->∀env kn T,Q .ret ⟨(2,.bool false) :: env,kn,T,h⟩)
  (fQ:(∀i,i<s->Ext.aT (fun j=>A (r+i) (n+j)*oY B W j) m % W=0)->∀kn T,Q (.exit 0) ⟨[],kn,T,h⟩) :
  ∀(d i:Nat) (I:Int),s-i<=d->i<=s->I=i->(∀j,j<i->Ext.aT (fun k=>A (r+j) (n+k)*oY B W k) m % W=0)->
   head 34 4 1 ⟨[(3,.slice pa m pc),(4,.int .i64 W),(21,.slice qa s qc),(22,.int .i64 S),(23,.int .i64 I)],1,[(0,c1)],h⟩ Q:=by
 intro d;have m4:=hM.m4;have hs:=a.sum;have hW:=w.gB m4
 induction d with
 |zero=>
  intro i I hd hi eI hz;refine hA.ar Try.func34 x34.2 (zc ?_);refine br (I<S) (by rw[aB hA]) (fun q=>om) (fun _=>?_)<;>refine zc ?_;exact fQ (fun j hj=>hz j om) _ _
 |succ d ih=>
 intro i I hd hi eI hz;by_cases ci:i<s
 rotate_left
 ·refine hA.ar Try.func34 x34.2 (zc ?_)
  refine br (I<S) (by rw[aB hA]) (fun q=>om) (fun _=>?_)<;>refine zc ?_;exact fQ (fun j hj=>hz j om) _ _
 obtain⟨b,rfl,_,q1⟩:=hr.head ci;obtain⟨cw,qv⟩:∃z,z=au 1 m:=⟨_,rfl⟩;rw[<-qv]at q1;have r1:rd h b (place 0 I 1) 1 [.slice (some ⟨rb i,0,none⟩) m cw]:=aC hA (by rw[eI];exact q1);have rw1:=hr.rows.jB ci;have ev:∀v,v=Ext.aT (fun k=>gt (kM (fun j=>A (r+i) (n+j)) m) (k:Int)*gt (Au B W m) (k:Int)) m % W->v=Ext.aT (fun k=>A (r+i) (n+k)*oY B W k) m % W:=fun v hv=>by
  rw[hv]
  congr 1
  exact Ext.aO m (fun k hk=>by rw[gm _ hk,C3 hk])
 refine hA.ar Try.func34 x34.2 (zc ?_);refine br (I<S) (by rw[aB hA]) (fun _=>?_) (fun q=>om)<;>refine zc ?_;refine zq ?_;refine CQ hA aq rw1 hp (Nat.le_refl m) om (B:=8162933760000) (fun k hk=>?_) om w.pos om (fun v hv=>⟨v,rfl,?_⟩)
 ·rw[gm _ hk,C3 hk]
  obtain⟨_,p0,p1,_⟩:=w.part ht hk;exact Je (a.small hM om _) p0 p1 hW
 have DN:=ev v hv;clear hv ev;refine zq ?_;refine br (v≠0) (by rw[cD hA]) (fun c=>?_) (fun c=>?_)<;>refine zc ?_
 ·refine zq ?_
  exact lM (fun q=>c (DN.trans (q i ci))) _ _ _
 ·refine zq ?_
  rw[aF hA om om];refine ih (i+1) (I+1) om om om (fun j hj=>?_);by_cases e:j=i
  ·rw[e,<-DN];omega
  ·exact hz j om
theorem FB(hI:sz F){h:af}(aq:h.low<=h.next){m n ac k bc:Nat}{aa ba:Option Addr}{gA:List Hd}{g:List (List Int)}{B:List Fc}(hM:oD g m n)(hg:rC nC 1 h aa m gA g)(hB:Rows fC 2 h ba k B)(ekm:k=m)(ht:∀i:Int,0<=i->i<m->cZ (gt B i)/\(gt B i).d<=60){Q:Value->af->Prop}
  (hQ:∀(b:Bool) h',(b=true↔kO g B m n)->Ext h h'->Q (.bool b) h'):call 34 [.agg #[.slice aa m ac,.slice ba k bc]] h Q:=by
 subst ekm;refine hA.aQ Try.func34 x34.2 (hA.alike _ _ _ rfl) aq (zc ?_);refine zq ?_;refine Bh hA aq hB hM.m4 ht (fun W h1 pa pc w t x1=>⟨_,_,_,_,rfl,?_⟩);refine zq ?_;refine zh hA hI (x1.az aq) hM (hg.ext x1) (fun h2 r s ra rc qa qc bs rb A st rw hd gd _=>⟨_,_,_,_,_,_,rfl,?_⟩);obtain⟨S,eS⟩:∃z:Int,z=s:=⟨_,rfl⟩;have e0:ofNat s=S:=by rw[eS];exact aR hA s
 have x2:=rw.ext
 (refine zq ?_;repeat ((first|rw[e0]);refine zq ?_))
 refine OS hA (x2.az (x1.az aq)) hM st ht w ⟨(t.ext x2).cells,fv,om⟩ gd eS (fun q env kn T=>?_) (fun q kn T=>?_) s 0 0 om om rfl (fun j hj=>om)
 ·refine zq ?_
  exact hQ false h2 ⟨(fun q=>by cases q),fun z=>absurd ((st.holds ht w).2 z) q⟩ (x1.trans x2)
 ·refine zq ?_
  exact hQ true h2 ⟨fun _=>(st.holds ht w).1 q,fun _=>rfl⟩ (x1.trans x2)
theorem zA(hI:sz F){h:af}(aq:h.low<=h.next){m ac k bc:Nat}{aa ba:Option Addr}{gA:List Hd}{g:List (List Int)}{B:List Fc}(hg:Da nC 1 h aa m gA g)(hB:Rows fC 2 h ba k B)(hi:∀i:Int,0<=i->i<k->i64 (gt B i).n/\i64 (gt B i).d){Q:Value->af->Prop}
  (UI:∀e h',dB g B e->e≠0->Ext h h'->Q (.tuple #[.int .i64 0,.int .i64 0,.int .i64 e]) h')
  (QV:∀h' n,dB g B 0->oD g m n->¬kO g B m n->Ext h h'->Q (.tuple #[.int .i64 0,.int .i64 0,.int .i64 6]) h')
  (V3:∀h' n r (c f:Int),dB g B 0->oD g m n->kO g B m n->oX g m n r->c=(Ext.Dv g m n r:Nat)->f=(n:Int)-r->Ext h h'->Q (.tuple #[.int .i64 c,.int .i64 f,.int .i64 0]) h'):call 24 [.agg #[.slice aa m ac,.slice ba k bc]] h Q:=by
 refine hA.aQ Try.func24 x24.2 (hA.alike _ _ _ rfl) aq (zc ?_);refine zq ?_;refine lS hA aq hg hB hi (fun e h1 he x1=>⟨e,rfl,?_⟩);refine zq ?_;refine br (e≠0) (by rw[cD hA]) (fun c=>?_) (fun c=>?_)<;>refine zc ?_
 ·refine zq ?_
  exact UI e h1 he c x1
 obtain rfl:e=0:=om
 obtain⟨gd,nm⟩:=he.rz;obtain⟨m',n,hM⟩:=gd.mat nm;obtain rfl:m=m':=by have:=hg.len;have:=hM.len;omega
 have GJ:=hg.full (fun y y0 y1=>by rw[hM.row y y0 y1];exact hM.n1);have hkm:k=m:=by have:=gd.len;have:=hB.len;have:=hg.len;omega
 refine zq ?_;refine FB hA hI (x1.az aq) hM (GJ.ext x1) (hB.ext x1) hkm (fun i i0 i1=>gd.turn i i0 (by have:=hB.len;omega)) (fun b h2 hb x2=>⟨b,rfl,?_⟩);have y2:=x1.trans x2;cases b with
 |false=>
  refine zq ?_;rw[show fP false=true by rw[df hA];rfl];refine zq ?_;exact QV h2 n he hM (fun q=>by have:=hb.2 q;cases this) y2
 |true=>
  refine zq ?_;rw[show fP true=false by rw[df hA];rfl];refine zq ?_;refine vG hA (y2.az aq) hM (GJ.ext y2) (fun h3 b k2 c2 r ek ir B2 x3=>⟨_,_,_,rfl,?_⟩);have y3:=y2.trans x3;obtain⟨h9,yW⟩:∃z,z=aH h3 18:=⟨_,rfl⟩;have xb:Ext h3 h9:=by rw[yW];exact av hA _ _
  have y9:=y3.trans xb;have B9:=B2.ext xb;have R9:=aJ.rows B9.own fv om B9.lt;rw[show(Hp g m n k2).length=k2 from bP _ _]at R9;have rm:=ir.lm;have rn:=ir.ln;have m4:=hM.m4;have mm1:=hM.m1;have n4:=hM.n4;obtain⟨K2,Yq⟩:∃z:Int,z=k2:=⟨_,rfl⟩;have e0:ofNat k2=K2:=by rw[Yq];exact aR hA k2
  obtain⟨R,eR⟩:∃z:Int,z=r:=⟨_,rfl⟩;have m1:arith .sub .i64 K2 1=R:=by rw[bR hA om om];omega
  obtain⟨x,ex⟩:∃z:Int,z=(Ext.Dv g m n r:Nat):=⟨_,rfl⟩;have gx:gt (Hp g m n k2) R=x:=by
   rw[ex,eR];exact gm (fun x=>(Ext.Dv g m n x:Int)) (n:=k2) (i:=r) om
  obtain⟨b',o',e',_,q1⟩:=R9.at (i:=R) om om;cases e';have q1:=q1 0 1 om om;rw[gx]at q1;have r1:rd h9 b (place 0 R 1) 1 [.int .i64 x]:=aC hA q1;obtain⟨N,eN⟩:∃z:Int,z=n:=⟨_,rfl⟩;have e1:ofNat n=N:=by rw[eN];exact aR hA n
  have KL:(gt g 0).length=n:=hM.row 0 om (by have:=hM.m1;omega);obtain⟨ab,ao,rfl,Su,w2⟩:=(GJ.ext y9).uR (i:=0) om (by have:=hM.m1;omega);have row:=(GJ.ext y9).row 0 om (by have:=hM.m1;omega);have yV:=row.len;rw[KL]at yV;rw[<-yV]at w2;have r2:rd h9 ab (place ao 0 1) 1 [.slice (gt gA 0).a n (gt gA 0).c]:=aC hA w2
  (refine zq ?_;repeat ((first|rw[e0]|rw[m1]);refine zq ?_))
  rw[<-yW]
  (refine zq ?_;repeat ((first|rw[e0]|rw[e1]|rw[m1]);refine zq ?_))
  rw[bR hA om om];exact V3 h9 n r x (N-R) he hM (hb.1 rfl) ir ex om y9
theorem Rq{h0:af}(gq:h0.low<=h0.next){n c c':Nat}{a a':Option Addr}{l:List Int}(p:Rows nC 1 h0 a n l)(q:Rows nC 1 h0 a' n l)(hn:n<=1000){N:Int}(eN:N=n){Q:Exit->SS->Prop}
  (hQ:∀h',Ext h0 h'->Q (.exit 0) ⟨[],0,[],h'⟩) :
  ∀(d i:Nat) (I:Int) (h:af),n-i<=d->i<=n->I=i->Ext h0 h->
   head 14 4 0 ⟨[(0,.slice a n c),(1,.slice a' n c'),(5,.int .i64 I)],0,[],h⟩ Q:=by
 intro d;have e0:ofNat n=N:=by rw[eN];exact aR hA n
 induction d with
 |zero=>
  intro i I h hd hi eI x;refine hA.ar Try.func14 x14.2 (zc ?_)
  (refine zq ?_;repeat ((first|rw[e0]);refine zq ?_))
  refine br (I<N) (by rw[aB hA]) (fun q=>om) (fun _=>?_)<;>refine zc ?_;exact hQ h x
 |succ d ih=>
 intro i I h hd hi eI x;by_cases ci:i<n
 rotate_left
 ·refine hA.ar Try.func14 x14.2 (zc ?_)
  (refine zq ?_;repeat ((first|rw[e0]);refine zq ?_))
  refine br (I<N) (by rw[aB hA]) (fun q=>om) (fun _=>?_)<;>refine zc ?_;exact hQ h x
 obtain⟨h9,yW⟩:∃z,z=aH h 9:=⟨_,rfl⟩;have x9:Ext h0 h9:=x.trans (by rw[yW];exact av hA _ _);obtain⟨b,o,rfl,_,q1⟩:=(p.ext x9).at (i:=I) om om;obtain⟨b',o',rfl,_,q2⟩:=(q.ext x9).at (i:=I) om om;obtain⟨y,ey⟩:∃z,z=gt l I:=⟨_,rfl⟩;have q3:=q1 0 1 om om;have q4:=q2 0 1 om om;rw[<-ey]at q3 q4;have r1:rd h9 b (place o I 1) 1 [.int .i64 y]:=aC hA q3;have r2:rd h9 b' (place o' I 1) 1 [.int .i64 y]:=aC hA q4;refine hA.ar Try.func14 x14.2 (zc ?_)
 (refine zq ?_;repeat ((first|rw[e0]);refine zq ?_))
 refine br (I<N) (by rw[aB hA]) (fun _=>?_) (fun q=>om)<;>refine zc ?_;rw[<-yW];refine zq ?_;refine br (y≠y) (by rw[cD hA]) (fun q=>absurd rfl q) (fun _=>?_)<;>refine zc ?_;refine zq ?_;rw[aF hA om om];exact ih (i+1) (I+1) h9 om om om x9
theorem AA{h:af}(aq:h.low<=h.next){n c c':Nat}{a a':Option Addr}{l:List Int}(p:Rows nC 1 h a n l)(q:Rows nC 1 h a' n l)(hn:n<=1000){Q:Value->af->Prop}(hQ:∀h',Ext h h'->Q (.bool true) h'):call 14 [.slice a n c,.slice a' n c'] h Q:=by
 obtain⟨N,eN⟩:∃z:Int,z=n:=⟨_,rfl⟩;have e0:ofNat n=N:=by rw[eN];exact aR hA n
 refine hA.aQ Try.func14 x14.2 (hA.alike _ _ _ rfl) aq (zc ?_)
 (refine zq ?_;repeat ((first|rw[e0]);refine zq ?_))
 refine br (N≠N) (by rw[cD hA]) (fun q=>absurd rfl q) (fun _=>?_)<;>refine zc ?_;refine zq ?_;refine Rq hA aq p q hn eN (fun h' x=>?_) n 0 0 h om om rfl (.refl h);refine zq ?_;exact hQ h' x
theorem Yu{hs:af}(gq:hs.low<=hs.next){g:List (List Int)}{B:List Fc}{m n s:Nat}{A:Nat->Ext.aN}{W many size:Int}{pa qa:Option Addr}{bs:Nat->Nat}(t:F8 hs g B m n s A W many size pa qa bs){k:Nat}(hk:k<n){xb xo xc pc qc fc fn V5 wd:Nat}{fa:Option Addr}{x:List Int}(hx:Rows nC 1 hs (some ⟨xb,xo,none⟩) n x){NI K F right L FN FI:Int}(eK:K=k)(eF:F=A k k)(eL:L=Ext.nw A (gC A B W m n) size n k x)(L0:0<=L)(L1:L<size){base:List (List Int)}(hb:base.length<=5000){Q:Exit->SS->Prop}
  (hQ:∀h' a N c hd,CZ hs h' a N c hd (base++(List.range (A k k).toNat).map (Ext.jy A (gC A B W m n) size n k x))->Q (.exit 4) ⟨[(0,.slice pa n pc),(1,.slice qa m qc),(2,.int .i64 W),(3,.int .i64 many),(9,.int .i64 NI),(10,.int .i64 size),(12,.int .i64 K),(13,.slice (some ⟨bs k,0,none⟩) wd V5),(14,.int .i64 F),(15,.int .i64 right),(16,.slice a N c),(55,.slice fa fn fc),(56,.int .i64 FN),(57,.int .i64 FI)],13,[],h'⟩) :
  ∀(d i:Nat) (I:Int) (h:af) (a:Option Addr) (N c:Nat) (hd:List Hd),(A k k).toNat-i<=d->i<=(A k k).toNat->I=i->CZ hs h a N c hd (base++(List.range i).map (Ext.jy A (gC A B W m n) size n k x))->
   head 49 16 13 ⟨[(0,.slice pa n pc),(1,.slice qa m qc),(2,.int .i64 W),(3,.int .i64 many),(9,.int .i64 NI),(10,.int .i64 size),(12,.int .i64 K),(13,.slice (some ⟨bs k,0,none⟩) wd V5),(14,.int .i64 F),(15,.int .i64 right),(16,.slice a N c),(18,.slice (some ⟨xb,xo,none⟩) n xc),(19,.int .i64 L),(55,.slice fa fn fc),(56,.int .i64 FN),(57,.int .i64 FI),(76,.int .i64 F),(77,.int .i64 I)],13,[],h⟩ Q:=by
 intro d;have n4:=t.hM.n4;obtain⟨W0,W1,y0,y1,s0,s1⟩:=t.OF;obtain⟨f1,f64⟩:=t.lead hk
 induction d with
 |zero=>
  intro i I h a N c hd xG hi eI lo;refine hA.ar Try.func49 mM (zc ?_);refine br (I<F) (by rw[aB hA]) (fun q=>om) (fun _=>?_)<;>refine zc ?_;obtain rfl:i=(A k k).toNat:=om
  exact hQ h a N c hd lo
 |succ d ih=>
 intro i I h a N c hd xG hi eI lo;by_cases ci:i<(A k k).toNat
 rotate_left
 ·refine hA.ar Try.func49 mM (zc ?_)
  refine br (I<F) (by rw[aB hA]) (fun q=>om) (fun _=>?_)<;>refine zc ?_;obtain rfl:i=(A k k).toNat:=om
  exact hQ h a N c hd lo
 have xe:=lo.s.ext;have aq:=xe.az gq;refine hA.ar Try.func49 mM (zc ?_);refine br (I<F) (by rw[aB hA]) (fun _=>?_) (fun q=>om)<;>refine zc ?_;refine zq ?_;refine zg hA aq (hx.ext xe) om (fun h1 b1 c1 o1 x1 lb=>⟨_,_,_,rfl,?_⟩);obtain⟨k1,k2,k3,k4⟩:=o1;obtain⟨h9,yW⟩:∃z,z=aH h1 13:=⟨_,rfl⟩;have Yv:Ext h1 h9:=by rw[yW];exact av hA _ _
 have x9:=x1.trans Yv;obtain⟨q,eq⟩:∃z,z=L / F:=⟨_,rfl⟩;obtain⟨z,ez⟩:∃z,z=size / F:=⟨_,rfl⟩;have m1:arith .quo .i64 L F=q:=by rw[eq];exact sQ hA L0 om om
 have m2:arith .quo .i64 size F=z:=by rw[ez];exact sQ hA om om om
 have q0:0<=q/\q<=L:=by rw[eq];exact⟨Int.ediv_nonneg L0 om,Int.ediv_le_self _ L0⟩
 have z0:0<=z/\z<=size:=by rw[ez];exact⟨Int.ediv_nonneg om om,Int.ediv_le_self _ om⟩
 obtain⟨u,eu⟩:∃u,u=I*z:=⟨_,rfl⟩;have ub:0<=u/\u<=64*829440000:=by
  rw[eu];exact⟨Int.mul_nonneg om z0.1,Int.mul_le_mul om om z0.1 om⟩
 have m3:arith .mul .i64 I z=u:=by rw[eu];exact jh hA (by rw[<-eu];omega) (by rw[<-eu];omega)
 obtain⟨v,ev⟩:∃v,v=q+u:=⟨_,rfl⟩;have m4:arith .add .i64 q u=v:=by rw[ev];exact aF hA om om
 have lx:=hx.len;have abd:=k1.ext Yv k2;obtain⟨h2,w1,w2,w3⟩:=aJ.setRow abd fv (i:=k) om v;have w1:wr h9 b1 (place 0 K 1) [.int .i64 v] h2:=wZ hA (by rw[eK,Nat.zero_add];exact w1);have xh2:Ext h h2:=w3.ext x9 lb;have e1:x.set k v=Ext.jy A (gC A B W m n) size n k x i:=by
  unfold Ext.jy;rw[ev,eu,ez,eq,eL,eF,eI]
 have X5:c1=au 1 n:=by rcases k4 with ⟨_,q⟩|q;omega;exact q
 have wz:=lo.more xh2;have nx2:h2.next=h9.next:=w3.next;have nx9:=x9.next;have b2:b1<h2.next:=by have:=Yv.next;omega
 have U6:Rows nC 1 h2 (some ⟨b1,0,none⟩) n (x.set k v):=by
  have:=aJ.rows w2 fv om b2;rw[List.length_set,lx]at this;exact this
 rw[e1]at U6;have al:∀ad,a=some ad->ad.block<h.next:=fun ad cW=>lo.o8.lt ad cW
 have xq:=xe.next;have hN:N<=6000:=by
  rw[<-lo.s.gr.len,List.length_append,List.length_map,List.length_range];omega
 refine zq ?_;rw[<-yW]
 (refine zq ?_;repeat ((first|rw[m1]|rw[m2]|rw[m3]|rw[m4]);refine zq ?_))
 refine wB hA Bd fF om I0 (v:=(⟨some ⟨b1,0,none⟩,n,c1⟩:Hd)) wz.o8 om (fun b' h' a' x' n' UG k'=>?_);have t2:=wz.add (k:=⟨some ⟨b1,0,none⟩,n,c1⟩) U6 (fun _=>.inr X5) (fun ad cW=>by cases cW;show hs.next<=b1;omega) (fun ad cW bd mg=>by cases mg;have:=al ad cW;show b1≠_;omega) a' (x' hs wz.s.ext lo.s.fr) n' UG k';have et:base++(List.range i).map (Ext.jy A (gC A B W m n) size n k x)++[Ext.jy A (gC A B W m n) size n k x i]=base++(List.range (i+1)).map (Ext.jy A (gC A B W m n) size n k x):=by
  rw[List.range_succ,List.map_append,List.append_assoc];rfl
 rw[et]at t2;clear eL e1 U6 et;generalize au 1 (N+1)=cc at *;obtain⟨N1,eN1⟩:∃z,z=N+1:=⟨_,rfl⟩;rw[<-eN1]at t2 ⊢;refine zq ?_;rw[aF hA om om];exact ih (i+1) (I+1) h' (some ⟨b',0,none⟩) N1 cc _ om om om t2
omit hA in
theorem Rr(a b n:Int):(a-b % n) % n=(a-b) % n:=by
 have h:=Int.emod_add_mul_ediv b n;have e:a-b % n=(a-b)+n*(b / n):=om
 rw[e,Int.add_mul_emod_self_left]
theorem U3{hs:af}(gq:hs.low<=hs.next){g:List (List Int)}{B:List Fc}{m n s:Nat}{A:Nat->Ext.aN}{W many size:Int}{pa qa:Option Addr}{bs:Nat->Nat}(t:F8 hs g B m n s A W many size pa qa bs){k:Nat}(hk:k<n){pc qc fc fn V5 wd:Nat}{fa:Option Addr}{fh:List Hd}{hz:af}{l:List (List Int)}(lf:Ls hz hs fa fn fh l)(hl:∀x,x∈l->Ext.CT A (gC A B W m n) size n (k+1) x)(f64:fn<=64){NI K F right FN:Int}(eN:NI=n)(eK:K=k)(eF:F=A k k)(eR:right=gC A B W m n k)(eFN:FN=fn)(ewd:wd=n+m)(erw:V5=au 1 wd){Q:Exit->SS->Prop}
  (hQ:∀h' a N c hd,CZ hs h' a N c hd (Ext.iq A (gC A B W m n) size n k l)->Q (.exit 2) ⟨[(0,.slice pa n pc),(1,.slice qa m qc),(2,.int .i64 W),(3,.int .i64 many),(9,.int .i64 NI),(10,.int .i64 size),(12,.int .i64 K),(16,.slice a N c)],13,[],h'⟩) :
  ∀(d i:Nat) (I:Int) (h:af) (a:Option Addr) (N c:Nat) (hd:List Hd),fn-i<=d->i<=fn->I=i->CZ hs h a N c hd (Ext.iq A (gC A B W m n) size n k (l.take i))->
   head 49 11 13 ⟨[(0,.slice pa n pc),(1,.slice qa m qc),(2,.int .i64 W),(3,.int .i64 many),(9,.int .i64 NI),(10,.int .i64 size),(12,.int .i64 K),(13,.slice (some ⟨bs k,0,none⟩) wd V5),(14,.int .i64 F),(15,.int .i64 right),(16,.slice a N c),(55,.slice fa fn fc),(56,.int .i64 FN),(57,.int .i64 I)],13,[],h⟩ Q:=by
 intro d;have n4:=t.hM.n4;have m4:=t.hM.m4;have n1:=t.hM.n1;have m1:=t.hM.m1;have sum:=t.st.sum;obtain⟨W0,W1,y0,y1,s0,s1⟩:=t.OF;obtain⟨f1,f64'⟩:=t.lead hk;have ll:=lf.gr.len;have r0:0<=right/\right<=829440000:=by
  have e1:=Int.emod_nonneg (jB A B W m n k) (show W≠0 by omega);have e2:=Int.emod_lt_of_pos (jB A B W m n k) W0;have e3:right=jB A B W m n k % W*many:=by rw[eR];unfold gC;rw[t.em]
  rw[e3];exact⟨Int.mul_nonneg e1 om,Int.mul_le_mul (show jB A B W m n k % W<=12960000 by omega) (show many<=64 by omega) om om⟩
 induction d with
 |zero=>
  intro i I h a N c hd xG hi eI lo;refine hA.ar Try.func49 mM (zc ?_);refine br (I<FN) (by rw[aB hA]) (fun q=>om) (fun _=>?_)<;>refine zc ?_;rw[List.take_of_length_le om]at lo;exact hQ h a N c hd lo
 |succ d ih=>
 intro i I h a N c hd xG hi eI lo;by_cases ci:i<fn
 rotate_left
 ·refine hA.ar Try.func49 mM (zc ?_)
  refine br (I<FN) (by rw[aB hA]) (fun q=>om) (fun _=>?_)<;>refine zc ?_;rw[List.take_of_length_le om]at lo;exact hQ h a N c hd lo
 have xe:=lo.s.ext;have aq:=xe.az gq;obtain⟨x,ex⟩:∃x,x=gt l I:=⟨_,rfl⟩;have Zp:x∈l:=by rw[ex];exact Td l om om
 have sx:=hl x Zp;have KX:=lf.gr.row I om om;have yV:=KX.len;rw[<-ex,sx.len]at yV;rw[<-ex,<-yV]at KX;obtain⟨fb,fo,rfl,_,q1⟩:=(lf.gr.ext xe).uR (i:=I) om om;rw[<-yV]at q1;obtain⟨xb,xo,exa,_⟩:=KX.at (i:=0) om om;rw[exa]at KX q1;obtain⟨xc,exc⟩:∃z,z=(gt fh I).c:=⟨_,rfl⟩;rw[<-exc]at q1;have r1:rd h fb (place fo I 1) 1 [.slice (some ⟨xb,xo,none⟩) n xc]:=aC hA q1;obtain⟨zG,rws⟩:=(t.more xe).rows;have ve:=rws.jB (y:=k) om;have front:Rows nC 1 h (some ⟨bs k,0,none⟩) n (kM (A k) n):=by
  refine⟨?_,fv,om⟩;have:=ve.cells.head (m:=n) om;have e:((kM (A k) (n+m)).flatMap nC).take (n*1)=(kM (A k) n).flatMap nC:=by
   rw[Gd fv]
   congr 1
   apply List.ext_getElem?;intro j;rw[List.getElem?_take];by_cases c:j<n
   ·rw[if_pos c,jO _ om,jO _ c]
   ·rw[if_neg c,List.getElem?_eq_none (by rw[bP];omega)]
  rw[e]at this;exact this
 have Jy:cM V5=wd:=by rw[erw];exact ct (by unfold aS;omega)
 obtain⟨S,eS⟩:∃S,S=Ext.iA A n k x:=⟨_,rfl⟩;obtain⟨S2,eS2⟩:∃z,z=S % size:=⟨_,rfl⟩;have S20:0<=S2/\S2<size:=by rw[eS2];exact⟨Int.emod_nonneg _ om,Int.emod_lt_of_pos _ s0⟩
 obtain⟨L0,eL0⟩:∃z,z=right-S2:=⟨_,rfl⟩;have m1':arith .sub .i64 right S2=L0:=by rw[eL0];exact bR hA om om
 obtain⟨L,eL⟩:∃z,z=L0 % size:=⟨_,rfl⟩;have Lr:0<=L/\L<size:=by rw[eL];exact⟨Int.emod_nonneg _ om,Int.emod_lt_of_pos _ s0⟩
 have eLX:L=Ext.nw A (gC A B W m n) size n k x:=by
  unfold Ext.nw;rw[eL,eL0,eS2,Rr,eS,eR]
 have fl:=Int.emod_add_mul_ediv L0 size;rw[<-eL]at fl;obtain⟨fq,efq⟩:∃z,z=L0 / size:=⟨_,rfl⟩;rw[<-efq]at fl;obtain⟨u,eu⟩:∃z,z=size*fq:=⟨_,rfl⟩;rw[<-eu]at fl;have m2:arith .mul .i64 size fq=u:=by rw[eu];exact jh hA (by rw[<-eu];omega) (by rw[<-eu];omega)
 have m3:arith .sub .i64 L0 u=L:=by rw[bR hA om om];omega
 have bl:(Ext.iq A (gC A B W m n) size n k (l.take i)).length<=5000:=by
  have h1:=Ji (fun x=>(List.range (A k k).toNat).map (Ext.jy A (gC A B W m n) size n k x)) 64 (fun x=>by rw[List.length_map,List.length_range];omega) (l.take i);have h2:(l.take i).length<=64:=by rw[List.length_take];omega
  have h3:(l.take i).length*64<=64*64:=Nat.mul_le_mul_right _ h2;unfold Ext.iq;omega
 refine hA.ar Try.func49 mM (zc ?_);refine br (I<FN) (by rw[aB hA]) (fun _=>?_) (fun q=>om)<;>refine zc ?_;refine zq ?_;refine⟨by rw[LK hA,Jy];exact⟨om,om⟩,?_⟩;refine zc ?_;rw[show nat NI=n by rw[AF hA];omega];refine zq ?_;refine CQ hA aq front (KX.ext xe) (Nat.le_refl n) om (B:=600000000000000) (fun j hj=>?_) om s0 om (fun v hv=>⟨v,rfl,?_⟩)
 ·rw[gm _ hj]
  have h1:=t.st.small t.hM (i:=k) om j;have h2:(gt x (j:Int)).natAbs<=829440000:=by
   by_cases c:j<k+1
   ·rw[sx.zero j c];decide
   ·have:=sx.uE j om hj;omega
  have:=Ext.jN h1 h2;omega
 obtain rfl:v=S2:=by
  rw[hv,eS2,eS]
  congr 1
  unfold Ext.iA;exact Ext.aO n (fun j hj=>by rw[gm _ hj])
 (refine zq ?_;repeat ((first|rw[m1']);refine zq ?_))
 refine ri hA s0 om om aq (fun q' XZ=>⟨q',rfl,?_⟩);obtain rfl:q'=fq:=by rw[XZ,efq]
 (refine zq ?_;repeat ((first|rw[m1']|rw[m2]|rw[m3]);refine zq ?_))
 refine Yu hA gq t hk KX eK eF eLX Lr.1 Lr.2 (base:=Ext.iq A (gC A B W m n) size n k (l.take i)) bl (fun h2 a2 N2 c2 Uh wz=>?_) (A k k).toNat 0 0 h a N c hd om (Nat.zero_le _) rfl (by rw[List.range_zero,List.map_nil,List.append_nil];exact lo);have et:Ext.iq A (gC A B W m n) size n k (l.take i)++(List.range (A k k).toNat).map (Ext.jy A (gC A B W m n) size n k x)=Ext.iq A (gC A B W m n) size n k (l.take (i+1)):=by
  have h1:l.take (i+1)=l.take i++[x]:=by
   rw[ex];exact zv l eI om
  rw[h1];unfold Ext.iq;rw[List.flatMap_append];simp
 rw[et]at wz;refine zq ?_;rw[aF hA om om];exact ih (i+1) (I+1) h2 a2 N2 c2 Uh om om om wz
theorem KY{h0:af}(gq:h0.low<=h0.next){L xn lc xc:Nat}{la xa:Option Addr}{l:List Int}{X:List Fc}(hl:Rows nC 1 h0 la L l)(hx:Rows fC 2 h0 xa xn X)(hL:L<=xn)(hn:L<=1000){D:Int}(hD:0<D){z:Nat->Int}(hz:∀k:Nat,k<L->hH (gt X (k:Int)).n (gt X (k:Int)).d (rq (z k) D)){B:Nat}(h9:∀k:Nat,k<L->(gt l (k:Int)).natAbs<=1000000000000000000)(hb:∀k:Nat,k<L->(gt l (k:Int)*z k).natAbs<=B)(hB:B+D.natAbs<=1000000000000000000){M:Int}(eM:M=L){rv:List Value}{Q:Exit->SS->Prop}
  (hQ:∀n d h',hH n d (rq (Ext.aT (fun k=>gt l (k:Int)*z k) L % D) D)->Ext h0 h'->Q (.exit 0) ⟨[(5,.pointer (some ⟨0,0,some 0⟩)),(7,.pointer (some ⟨1,0,some 0⟩))],2,[(0,rv),(1,[.int .i64 n,.int .i64 d])],h'⟩) :
  ∀(d k:Nat) (K sn sd:Int) (h:af),L-k<=d->k<=L->K=k->hH sn sd (rq (Ext.aT (fun k=>gt l (k:Int)*z k) k % D) D)->Ext h0 h->
   head 52 3 2 ⟨[(1,.slice xa xn xc),(5,.pointer (some ⟨0,0,some 0⟩)),(7,.pointer (some ⟨1,0,some 0⟩)),(14,.slice la L lc),(15,.int .i64 M),(16,.int .i64 K)],2,[(0,rv),(1,[.int .i64 sn,.int .i64 sd])],h⟩ Q:=by
 refine oR (fun d ih=>?_);intro k K sn sd h hd hk eK hs x;by_cases ck:k<L
 rotate_left
 ·refine hA.ar Try.func52 x52.2 (zc ?_)
  refine br (K<M) (by rw[aB hA]) (fun q=>om) (fun _=>?_)<;>refine zc ?_;obtain rfl:k=L:=om
  exact hQ sn sd h hs x
 obtain⟨d,rfl⟩:∃k,d=k+1:=⟨d-1,om⟩
 replace ih:=ih d rfl
 have aq:=x.az gq;obtain⟨lb,lo,rfl,hlb,w1⟩:=(hl.ext x).at (i:=K) om om;have w1:=w1 0 1 om om;obtain⟨Yv,xo,rfl,hxb,w2⟩:=(hx.ext x).at (i:=K) om om;have w2:=w2 0 2 om om;have zk:=hz k ck;have b9:=h9 k ck;have bb:=hb k ck;obtain⟨c,ec⟩:∃z,z=gt l (k:Int):=⟨_,rfl⟩;obtain⟨f,ef⟩:∃z,z=gt X (k:Int):=⟨_,rfl⟩;obtain⟨S,eS⟩:∃s,s=Ext.aT (fun k=>gt l (k:Int)*z k) k:=⟨_,rfl⟩;have eS1:Ext.aT (fun k=>gt l (k:Int)*z k) (k+1)=S+c*z k:=by rw[eS,ec];rfl
 rw[eK,<-ec]at w1;rw[eK,<-ef]at w2;rw[<-ef]at zk;rw[<-ec]at b9 bb;rw[<-eS]at hs;obtain⟨fn,fd⟩:=f;obtain⟨v,ev⟩:∃v,v=z k:=⟨_,rfl⟩;rw[<-ev]at zk bb eS1;have zk:hH fn fd (rq v D):=zk;rw[<-eK]at w1 w2;have r1:rd h lb (place lo K 1) 1 [.int .i64 c]:=aC hA w1;have r2:rd h Yv (place xo K 2) 2 [.int .i64 fn,.int .i64 fd]:=aC hA w2;have hc:=wD (n:=c) om om;have cn:cmp .neq (0:Int) 0=false:=by rw[cD hA];rfl
 refine hA.ar Try.func52 x52.2 (zc ?_);refine br (K<M) (by rw[aB hA]) (fun _=>?_) (fun q=>om)<;>refine zc ?_;refine zq ?_;refine NF hA aq hc.qo hc.rB zk.qo zk.rB (fun a b r q h2 x2=>⟨_,_,_,rfl,?_⟩);obtain⟨q1,rfl⟩:=CL hc zk (f:=(· * ·)) (by show fits ((c:Rat)*rq v D);rw[CM];exact tM om om om) q
 replace q1:hH a b ((c:Rat)*rq v D):=q1
 rw[CM]at q1;have l2:=x2.az aq
 (refine zq ?_;repeat ((first|rw[cn]);refine zq ?_))
 have em:=Int.emod_nonneg S (show D≠0 by omega);have Ux:=Int.emod_lt_of_pos S hD;refine IU hA l2 hs.qo hs.rB q1.qo q1.rB (fun a2 b2 r2 q2 h3 x3=>⟨_,_,_,rfl,?_⟩);have Yw:rq (S % D) D+rq (c*v) D=rq (S % D+c*v) D:=uS om;obtain⟨q3,rfl⟩:=CL hs q1 (f:=(· + ·)) (by show fits (rq (S % D) D+rq (c*v) D);rw[Yw];exact tM om om om) q2
 replace q3:hH a2 b2 (rq (S % D) D+rq (c*v) D):=q3
 rw[Yw]at q3;have l3:=x3.az l2
 (refine zq ?_;repeat ((first|rw[cn]);refine zq ?_))
 refine Oi hA l3 q3 (fun h4 x4=>⟨_,_,rfl,?_⟩);have l4:=x4.az l3;have fl:=CO q3 hD;have d1:=q3.den;have n1:=q3.2.2.1;have n2:=q3.2.2.2.1;rw[<-q3.1]at n1 n2;obtain⟨w,ew⟩:∃w,w=a2 / b2:=⟨_,rfl⟩;have wb:-1000000000000000000<=w/\w<=1000000000000000000:=by
  have:=Int.natAbs_ediv_le_natAbs a2 b2;rw[<-ew]at this;omega
 have hw:=wD wb.1 wb.2;obtain⟨T,eT⟩:∃t,t=S % D+c*v:=⟨_,rfl⟩;rw[<-eT]at q3 fl;have m0:=Int.emod_nonneg T (show D≠0 by omega);have m1:=Int.emod_lt_of_pos T hD;have ev:rq T D-(w:Rat)=rq (T % D) D:=by
  rw[ew,fl,jQ (l:=T / D) (show D≠0 by omega),Hq om]
  congr 1
  have:=Int.mul_ediv_add_emod T D;rw[Int.mul_comm]at this;omega
 rw[<-ew]
 (refine zq ?_;repeat ((first|rw[cn]);refine zq ?_))
 refine IV hA l4 q3.qo q3.rB hw.qo hw.rB (fun a3 b3 r3 k3 h5 x5=>⟨_,_,_,rfl,?_⟩);obtain⟨k4,rfl⟩:=CL q3 hw (f:=(· - ·)) (by show fits (rq T D-(w:Rat));rw[ev];exact tM om om om) k3
 replace k4:hH a3 b3 (rq T D-(w:Rat)):=k4
 rw[ev]at k4;have eM2:T % D=(S+c*v) % D:=by rw[eT];exact Int.emod_add_emod ..
 rw[eM2,<-eS1]at k4
 (refine zq ?_;repeat ((first|rw[cn]);refine zq ?_))
 rw[aF hA om om];exact ih (k+1) (K+1) a3 b3 h5 om om om k4 ((((x.trans x2).trans x3).trans x4).trans x5)
theorem Rs{h:af}(aq:h.low<=h.next){L xn lc xc:Nat}{la xa:Option Addr}{l:List Int}{X:List Fc}(hl:Rows nC 1 h la L l)(hx:Rows fC 2 h xa xn X)(hL:L<=xn)(hn:L<=1000){D:Int}(hD:0<D){z:Nat->Int}(hz:∀k:Nat,k<L->hH (gt X (k:Int)).n (gt X (k:Int)).d (rq (z k) D)){B:Nat}(h9:∀k:Nat,k<L->(gt l (k:Int)).natAbs<=1000000000000000000)(hb:∀k:Nat,k<L->(gt l (k:Int)*z k).natAbs<=B)(hB:B+D.natAbs<=1000000000000000000){rn rd:Int}{Q:Value->af->Prop}
  (hQ:∀n d b h',hH n d (rq (Ext.aT (fun k=>gt l (k:Int)*z k) L % D) D)->(b=true↔n=rn/\d=rd)->Ext h h'->Q (.bool b) h'):call 52 [.slice la L lc,.slice xa xn xc,.agg #[.int .i64 rn,.int .i64 rd]] h Q:=by
 obtain⟨M,eM⟩:∃s:Int,s=L:=⟨_,rfl⟩;have e0:ofNat L=M:=by rw[eM];exact aR hA L
 refine hA.aQ Try.func52 x52.2 (hA.alike _ _ _ rfl) aq (zc ?_)
 (refine zq ?_;repeat ((first|rw[e0]);refine zq ?_))
 refine KY hA aq hl hx hL hn hD hz h9 hb hB eM (fun n d h' q x=>?_) L 0 0 0 1 h om om rfl (OR hD) (.refl h);obtain⟨r,BS,JY⟩:=eqF n d rn rd;refine zq ?_;rw[sP hA];refine⟨Tf,r,BS,?_⟩;refine zq ?_;exact hQ n d r h' q JY x
theorem KZ{h0:af}(gq:h0.low<=h0.next){xn xc:Nat}{xa:Option Addr}{X:List Fc}(hx:Rows fC 2 h0 xa xn X)(hxi:∀i:Int,0<=i->i<xn->i64 (gt X i).n/\i64 (gt X i).d)(x100:xn<=1000){T:List Value}{N:Int}(eN:N=xn){Q:Exit->SS->Prop}
  (lM:(∃j:Nat,j<xn/\¬cZ (gt X (j:Int)))->∀env kn T h',Ext h0 h'->Q .ret ⟨(5,.int .i64 0) :: (4,.bool false) :: env,kn,T,h'⟩)
  (fQ:(∀j:Nat,j<xn->cZ (gt X (j:Int)))->∀h',Ext h0 h'->Q (.exit 0) ⟨[(1,.slice xa xn xc),(2,.pointer (some ⟨0,0,some 0⟩))],1,[(0,T)],h'⟩) :
  ∀(d i:Nat) (I:Int) (h:af),xn-i<=d->i<=xn->I=i->Ext h0 h->(∀j:Nat,j<i->cZ (gt X (j:Int)))->
   head 25 7 1 ⟨[(1,.slice xa xn xc),(2,.pointer (some ⟨0,0,some 0⟩)),(24,.slice xa xn xc),(25,.int .i64 N),(26,.int .i64 I)],1,[(0,T)],h⟩ Q:=by
 refine oR (fun d ih=>?_);intro i I h hd hi eI x hp;by_cases ci:i<xn
 rotate_left
 ·refine hA.ar Try.func25 x25.2 (zc ?_)
  refine br (I<N) (by rw[aB hA]) (fun q=>om) (fun _=>?_)<;>refine zc ?_;exact fQ (fun j hj=>hp j om) h x
 obtain⟨d,rfl⟩:∃k,d=k+1:=⟨d-1,om⟩
 replace ih:=ih d rfl
 have aq:=x.az gq;obtain⟨xb,xo,rfl,_,q2⟩:=(hx.ext x).at (i:=I) om om;have q3:=q2 0 2 om om;obtain⟨i1,i2⟩:=hxi I om om;obtain⟨y,ey⟩:∃z,z=gt X I:=⟨_,rfl⟩;rw[<-ey]at q3 i1 i2;have Xu:gt X (i:Int)=y:=by rw[ey,eI]
 obtain⟨yn,yd⟩:=y;have r1:rd h xb (place xo I 2) 2 [.int .i64 yn,.int .i64 yd]:=aC hA q3;refine hA.ar Try.func25 x25.2 (zc ?_);refine br (I<N) (by rw[aB hA]) (fun _=>?_) (fun q=>om)<;>refine zc ?_;refine zq ?_;refine I3 hA (x:=⟨yn,yd⟩) aq i1 i2 (fun b h1 hb x1=>⟨b,rfl,?_⟩);cases b with
 |false=>
  refine zq ?_;rw[show fP false=true by rw[df hA];rfl];refine zq ?_;exact lM ⟨i,ci,by rw[Xu];intro q;have:=hb.2 q;cases this⟩ _ _ _ h1 (x.trans x1)
 |true=>
  refine zq ?_;rw[show fP true=false by rw[df hA];rfl];refine zq ?_;rw[aF hA om om];refine ih (i+1) (I+1) h1 om om om (x.trans x1) (fun j hj=>?_);by_cases e:j=i
  ·rw[e,Xu];exact hb.1 rfl
  ·exact hp j om
theorem OT{h0:af}(gq:h0.low<=h0.next){m n ac bc xc:Nat}{aa ba xa:Option Addr}{gA:List Hd}{g:List (List Int)}{B X:List Fc}(hM:oD g m n)(hg:rC nC 1 h0 aa m gA g)(hB:Rows fC 2 h0 ba m B)(hx:Rows fC 2 h0 xa n X){D:Int}{z:Nat->Int}(s:V4 X n D z)(hb:∀i:Nat,i<m->cZ (gt B (i:Int))){M:Int}(eM:M=m){Q:Exit->SS->Prop}
  (lM:(∃i:Nat,i<m/\¬∃c:Int,rq (Ext.aT (fun j=>Ext.el g i j*z j) n) D=vq (gt B (i:Int))+(c:Rat))->∀env kn T h',Ext h0 h'->Q .ret ⟨(5,.int .i64 0) :: (4,.bool false) :: env,kn,T,h'⟩)
  (fQ:(∀i:Nat,i<m->∃c:Int,rq (Ext.aT (fun j=>Ext.el g i j*z j) n) D=vq (gt B (i:Int))+(c:Rat))->∀kn T h',Ext h0 h'->Q (.exit 2) ⟨[],kn,T,h'⟩) :
  ∀(d i:Nat) (I:Int) (h:af),m-i<=d->i<=m->I=i->Ext h0 h->(∀k:Nat,k<i->∃c:Int,rq (Ext.aT (fun j=>Ext.el g k j*z j) n) D=vq (gt B (k:Int))+(c:Rat))->
   head 25 13 1 ⟨[(1,.slice xa n xc),(2,.pointer (some ⟨0,0,some 0⟩)),(35,.slice aa m ac),(36,.int .i64 M),(37,.int .i64 I)],1,[(0,[.slice aa m ac,.slice ba m bc])],h⟩ Q:=by
 intro d
 induction d with
 |zero=>
  intro i I h hd hi eI x hp;refine hA.ar Try.func25 x25.2 (zc ?_);refine br (I<M) (by rw[aB hA]) (fun q=>om) (fun _=>?_)<;>refine zc ?_;exact fQ (fun j hj=>hp j om) _ _ h x
 |succ d ih=>
 intro i I h hd hi eI x hp;have m4:=hM.m4;have n4:=hM.n4;by_cases ci:i<m
 rotate_left
 ·refine hA.ar Try.func25 x25.2 (zc ?_)
  refine br (I<M) (by rw[aB hA]) (fun q=>om) (fun _=>?_)<;>refine zc ?_;exact fQ (fun j hj=>hp j om) _ _ h x
 have aq:=x.az gq;obtain⟨lb,lo,rfl,hlb,q1⟩:=(hg.ext x).uR (i:=I) om om;obtain⟨ra,era⟩:∃z,z=(gt gA I).a:=⟨_,rfl⟩;obtain⟨rc,KK⟩:∃z,z=(gt gA I).c:=⟨_,rfl⟩;have row:=(hg.ext x).row I om om;have KL:(gt g I).length=n:=hM.row I om om;have rl:=row.len;rw[KL]at rl;rw[<-era,<-rl]at row;rw[<-era,<-KK,<-rl]at q1;have r1:rd h lb (place lo I 1) 1 [.slice ra n rc]:=aC hA q1;obtain⟨bb,bo,rfl,_,w2⟩:=(hB.ext x).at (i:=I) om om;have w2:=w2 0 2 om om;have tf:=hb i ci;obtain⟨f,ef⟩:∃z,z=gt B I:=⟨_,rfl⟩;rw[<-ef]at w2;have ef2:gt B (i:Int)=f:=by rw[ef,eI]
 rw[ef2]at tf;obtain⟨fn,fd⟩:=f;have r2:rd h bb (place bo I 2) 2 [.int .i64 fn,.int .i64 fd]:=aC hA w2;have eg:∀j:Nat,gt (gt g I) (j:Int)=Ext.el g i j:=fun j=>by rw[eI];rfl
 refine hA.ar Try.func25 x25.2 (zc ?_);refine br (I<M) (by rw[aB hA]) (fun _=>?_) (fun q=>om)<;>refine zc ?_;refine zq ?_;refine Rs hA aq row (hx.ext x) (Nat.le_refl n) om s.pos (z:=z) (fun k hk=>(s.fx k hk).2.2) (B:=9000000000) (fun k hk=>by
   rw[eg];have:=hM.nine i k;unfold Ext.el;omega) (fun k hk=>by
   rw[eg];exact OM (hM.nine i k) (s.fx k hk).1 (s.fx k hk).2.1 s.dR) (by have:=s.pos;have:=s.dR;omega) (fun nn dd b h1 q vl x1=>⟨b,rfl,?_⟩)
 rw[Ext.aO n (g:=fun j=>Ext.el g i j*z j) (fun j _=>by rw[eg])]at q;have key:=Rj s.pos tf q;cases b with
 |false=>
  refine zq ?_;rw[show fP false=true by rw[df hA];rfl];refine zq ?_;refine lM ⟨i,ci,fun w=>?_⟩ _ _ _ h1 (x.trans x1);rw[ef2]at w;have:=vl.2 (key.2 w);cases this
 |true=>
  refine zq ?_;rw[show fP true=false by rw[df hA];rfl];refine zq ?_;rw[aF hA om om];refine ih (i+1) (I+1) h1 om om om (x.trans x1) (fun j hj=>?_);by_cases e:j=i
  ·rw[e,ef2];exact key.1 (vl.1 rfl)
  ·exact hp j om
theorem u5{h:af}(aq:h.low<=h.next){m n ac bc xn xc:Nat}{aa ba xa:Option Addr}{gA:List Hd}{g:List (List Int)}{B X:List Fc}(he:dB g B 0)(hM:oD g m n)(hg:rC nC 1 h aa m gA g)(hB:Rows fC 2 h ba m B)(hi:∀i:Int,0<=i->i<m->i64 (gt B i).n/\i64 (gt B i).d)(hx:Rows fC 2 h xa xn X)(hxi:∀i:Int,0<=i->i<xn->i64 (gt X i).n/\i64 (gt X i).d)(hs:xn=n->(∀j:Nat,j<n->cZ (gt X (j:Int)))->∃D z,V4 X n D z){Q:Value->af->Prop}
  (hQ:∀b h',(b=true↔qA g B m n X)->Ext h h'->Q (.tuple #[.bool b,.int .i64 0]) h'):call 25 [.agg #[.slice aa m ac,.slice ba m bc],.slice xa xn xc] h Q:=by
 obtain⟨M,eM⟩:∃s:Int,s=m:=⟨_,rfl⟩;have e0:ofNat m=M:=by rw[eM];exact aR hA m
 obtain⟨N,eN⟩:∃s:Int,s=xn:=⟨_,rfl⟩;have e1:ofNat xn=N:=by rw[eN];exact aR hA xn
 obtain⟨N',eN'⟩:∃s:Int,s=n:=⟨_,rfl⟩;have e2:ofNat n=N':=by rw[eN'];exact aR hA n
 have m1:=hM.m1;have m4:=hM.m4;have n4:=hM.n4;obtain⟨gd,nm⟩:=he.rz;refine hA.aQ Try.func25 x25.2 (hA.alike _ _ _ rfl) aq (zc ?_);refine zq ?_;refine lS hA aq hg.oW hB hi (fun e h1 ce x1=>⟨e,rfl,?_⟩);obtain rfl:=he.uniq ce;have l1:=x1.az aq;have cn:cmp .neq (0:Int) 0=false:=by rw[cD hA];rfl
 obtain⟨lb,lo,rfl,hlb,q1⟩:=(hg.ext x1).uR (i:=0) om om;have row:=(hg.ext x1).row 0 om om;have KL:(gt g 0).length=n:=hM.row 0 om om;have rl:=row.len;rw[KL]at rl;rw[<-rl]at q1;have r1:rd h1 lb (place lo 0 1) 1 [.slice (gt gA 0).a n (gt gA 0).c]:=aC hA q1
 (refine zq ?_;repeat ((first|rw[cn]|rw[e0]|rw[e1]|rw[e2]);refine zq ?_))
 refine br (N≠N') (by rw[cD hA]) (fun c=>?_) (fun c=>?_)<;>refine zc ?_
 ·refine zq ?_
  exact hQ false h1 ⟨(fun q=>by cases q),fun q=>by have:=q.len;have:=hx.len;omega⟩ x1
 obtain rfl:xn=n:=om
 (refine zq ?_;repeat ((first|rw[cn]|rw[e0]|rw[e1]|rw[e2]);refine zq ?_))
 have hlen:=hx.len;refine KZ hA l1 (hx.ext x1) hxi om eN (fun q env kn T h2 x2=>?_) (fun q h2 x2=>?_) xn 0 0 h1 om om rfl (.refl h1) (fun j hj=>om)
 ·refine zq ?_
  obtain⟨j,hj,q⟩:=q;exact hQ false h2 ⟨(fun q=>by cases q),fun w=>absurd (w.turn j hj) q⟩ (x1.trans x2)
 obtain⟨D,z,s⟩:=hs rfl q;have l2:=x2.az l1;have iff:=qA.iff (g:=g) (B:=B) (m:=m) s om q
 (refine zq ?_;repeat ((first|rw[cn]|rw[e0]|rw[e1]|rw[e2]);refine zq ?_))
 refine OT hA l2 hM ((hg.ext x1).ext x2) ((hB.ext x1).ext x2) ((hx.ext x1).ext x2) s (fun i Ei=>(gd.turn i om (by have:=hB.len;omega)).1) eM (fun w env kn T h3 x3=>?_) (fun w kn T h3 x3=>?_) m 0 0 h2 om om rfl (.refl h2) (fun j hj=>om)
 ·refine zq ?_
  obtain⟨i,Ei,w⟩:=w;exact hQ false h3 ⟨(fun q=>by cases q),fun v=>absurd (iff.1 v i Ei) w⟩ ((x1.trans x2).trans x3)
 ·refine zq ?_
  exact hQ true h3 ⟨fun _=>iff.2 w,fun _=>rfl⟩ ((x1.trans x2).trans x3)
