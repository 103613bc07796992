import Derived.Test.YtdpbiegfljmhmaaGreatFqP
set_option linter.unusedSimpArgs false
set_option linter.unusedVariables false
namespace Go.Proofs.YtdpbiegfljmhmaaGreat
open Go.cS
set_option maxRecDepth 100000
theorem rX.gn{B:List Fc}{k:Nat}{W:Int}(w:rX B k W)(k4:k<=4):W<=12960000:=by
 have h:=w.le;have:(60:Nat) ^ k<=60 ^ 4:=Nat.pow_le_pow_right om k4;omega
theorem BZ{B:List Fc}{W:Int}{k i:Nat}(h:i<k):gt (zK B W k) (i:Int)=oL B W i:=PF h
theorem HU{a p W:Int}(ha:a.natAbs<=629856)(p0:0<=p)(p1:p<W)(hW:W<=12960000):(a*p).natAbs<=8162933760000:=by
 have:=Ext.jL ha (show p.natAbs<=12960000 by omega);omega
theorem rX.ex{B:List Fc}{k:Nat}(ht:∀i:Int,0<=i->i<k->ct (gt B i)/\(gt B i).d<=60):∃W,rX B k W:=by
 have:∀i,i<=k->∃W,rX B i W:=by
  intro i
  induction i with
  |zero=>intro _;exact⟨1,rX.start B⟩
  |succ i ih=>
   intro hi;obtain⟨W,w⟩:=ih om;obtain⟨⟨ok,_,_⟩,d60⟩:=ht i om om;exact⟨_,w.step rfl ok.is.den d60⟩
 exact this k (Nat.le_refl k)
theorem bJ.wj{g:List (List Int)}{m n s:Nat}{A:Nat->Ext.aQ}(a:bJ g m n n s A){i:Nat}(hi:i<n):Ext.aj (n+m) (A i)=i:=by
 have e:=a.ZC;have h1:i<=Ext.aj (n+m) (A i):=Ext.tv (k:=n) (r:=fun i=>Ext.aj (n+m) (A i)) (fun i hi=>e.inc i (i+1) om hi) i hi;have up:∀t,i+t<n->Ext.aj (n+m) (A i)+t<=Ext.aj (n+m) (A (i+t)):=by
  intro t
  induction t with
  |zero=>intro _;exact Nat.le_refl _
  |succ t ih=>
   intro ht;have h2:=ih om;have h3:Ext.aj (n+m) (A (i+t))<Ext.aj (n+m) (A (i+(t+1))):=e.inc (i+t) (i+(t+1)) om om;omega
 have h3:=up (n-1-i) om;have h4:Ext.aj (n+m) (A (i+(n-1-i)))<n:=e.lt (i+(n-1-i)) om;omega
def jJ(A:Nat->Ext.aQ)(B:List Fc)(W:Int)(m n k:Nat):Int:=Ext.aP (fun t=>A k (n+t)*oL B W t) m
def gp(A:Nat->Ext.aQ)(B:List Fc)(W:Int)(m n:Nat)(k:Nat):Int:=jJ A B W m n k % W*Ext.Mk A n
theorem pZ{A:Nat->Nat->Int}:∀n,(∀i,i<n->0<A i i)->0<Ext.Mk A n
 |0,_=>by show(0:Int)<1;decide
 |n+1,h=>Int.mul_pos (pZ n (fun i hi=>h i om)) (h n om)
theorem bJ.diag{g:List (List Int)}{m n s:Nat}{A:Nat->Ext.aQ}(a:bJ g m n n s A){i:Nat}(hi:i<n):0<A i i:=by
 have:=a.O7.pos i (by have:=a.sum;omega);rw[a.wj hi]at this;exact this
theorem bJ.JC{g:List (List Int)}{m n s:Nat}{A:Nat->Ext.aQ}(a:bJ g m n n s A){B:List Fc}{W:Int}(hW:0<W):Ext.zJ A (gp A B W m n) (W*Ext.Mk A n) n:=by
 have dp:∀i,i<n->0<A i i:=fun i hi=>a.diag hi
 refine⟨fun i j hi hj=>Ext.bz (w:=n+m) (by rw[a.wj hi];exact hj),dp,Int.mul_pos hW (pZ n dp),Int.dvd_mul_left ..,fun k hk=>Int.dvd_mul_left ..⟩
structure MY(g:List (List Int))(P:Nat->Int)(m n:Nat)(many size:Int)(x:List Int):Prop where
 len:x.length=n
 uh:∀j:Nat,j<n->0<=gt x (j:Int)/\gt x (j:Int)<size
 eqs:∀i,i<m->size∣P i*many-Ext.aP (fun j=>Ext.el g i j*gt x (j:Int)) n
theorem Eo(f g:Nat->Int)(n:Nat):Ext.aP (fun k=>f k-g k) n=Ext.aP f n-Ext.aP g n:=by
 have h:=Ext.sP (fun k=>f k-g k) g n;rw[Ext.aT n (g:=f) (fun k _=>om)]at h;omega
theorem bJ.ZH{g:List (List Int)}{m n s:Nat}{A:Nat->Ext.aQ}(a:bJ g m n n s A){B:List Fc}{W:Int}(w:rX B m W)(hR:mn g B m n)(x:List Int):Ext.BY A (gp A B W m n) (W*Ext.Mk A n) n 0 x↔MY g (oL B W) m n (Ext.Mk A n) (W*Ext.Mk A n) x:=by
 have hs:=a.sum;obtain⟨many,eM⟩:∃z,z=Ext.Mk A n:=⟨_,rfl⟩;have row:∀k,k<n->((gp A B W m n k-Ext.iv A n k x) % (W*many)=0↔W*many∣jJ A B W m n k*many-Ext.iv A n k x):=fun k hk=>by
  have e:jJ A B W m n k*many-Ext.iv A n k x=(gp A B W m n k-Ext.iv A n k x)+W*many*(jJ A B W m n k / W):=by
   unfold gp;rw[<-eM];have h1:=Int.emod_add_mul_ediv (jJ A B W m n k) W;have h2:jJ A B W m n k*many=(jJ A B W m n k % W+W*(jJ A B W m n k / W))*many:=by rw[h1]
   rw[h2,Int.add_mul,Int.mul_assoc W,Int.mul_comm (jJ A B W m n k / W),<-Int.mul_assoc W];omega
  rw[e];constructor
  ·intro h
   exact Int.dvd_add (Int.dvd_of_emod_eq_zero h) (Int.dvd_mul_right _ _)
  ·intro h
   have:=Int.dvd_sub h (Int.dvd_mul_right (W*many) (jJ A B W m n k / W));rw[Int.add_sub_cancel]at this;exact Int.emod_eq_zero_of_dvd this
 rw[<-eM];constructor
 ·intro sx
  refine⟨sx.len,fun j hj=>sx.uh j (Nat.zero_le j) hj,fun i hi=>?_⟩;obtain⟨c,hc⟩:=a.Ck.ge i hi;have hel:∀j,j<n->Ext.el g i j=Ext.aP (fun k=>c k*A k j) m:=fun j hj=>by rw[<-Gq hj];exact hc j om
  have hdl:∀t,t<m->(if t=i then(1:Int)else 0)=Ext.aP (fun k=>c k*A k (n+t)) m:=fun t ht=>by rw[<-Gr (g:=g) (n:=n)];exact hc (n+t) om
  have e1:oL B W i=Ext.aP (fun k=>c k*jJ A B W m n k) m:=by
   have h1:oL B W i=Ext.aP (fun t=>(if t=i then(1:Int)else 0)*oL B W t) m:=by
    rw[Ext.pv m hi (fun k _ ne=>by rw[if_neg ne,Int.zero_mul])];simp
   rw[h1,Ext.aT m (g:=fun t=>Ext.aP (fun k=>c k*(A k (n+t)*oL B W t)) m) (fun t ht=>by
    rw[hdl t ht,<-iV];exact Ext.aT m (fun k _=>by rw[Int.mul_assoc])),<-ng]
   exact Ext.aT m (fun k _=>by unfold jJ;rw[Ext.jV])
  have e2:Ext.aP (fun j=>Ext.el g i j*gt x (j:Int)) n=Ext.aP (fun k=>c k*Ext.iv A n k x) m:=by
   rw[Ext.aT n (g:=fun j=>Ext.aP (fun k=>c k*(A k j*gt x (j:Int))) m) (fun j hj=>by
    rw[hel j hj,<-iV];exact Ext.aT m (fun k _=>by rw[Int.mul_assoc])),<-ng]
   exact Ext.aT m (fun k _=>by unfold Ext.iv;rw[Ext.jV])
  have e3:oL B W i*many-Ext.aP (fun j=>Ext.el g i j*gt x (j:Int)) n=Ext.aP (fun k=>c k*(jJ A B W m n k*many-Ext.iv A n k x)) m:=by
   rw[e1,e2,<-iV,<-Eo];exact Ext.aT m (fun k _=>by rw[Int.mul_sub,Int.mul_assoc])
  rw[e3];refine Ext.qM m (fun k hk=>Int.dvd_mul_of_dvd_right ?_);by_cases ck:k<n
  ·exact(row k ck).1 (sx.eqs k (Nat.zero_le k) ck)
  ·have z1:Ext.iv A n k x=0:=by
    unfold Ext.iv;rw[Ext.aT n (g:=fun _=>0) (fun j hj=>by
     rw[Ext.bz (w:=n+m) (v:=A k) (j:=j) (by have:=a.hi k om hk;omega),Int.zero_mul]),Ext.qt]
   have z2:W∣jJ A B W m n k:=by
    have:=hR W w _ (a.rel (i:=k-n) om);rw[show n+(k-n)=k by omega]at this;exact Int.dvd_of_emod_eq_zero this
   rw[z1,Int.sub_zero];exact Int.mul_dvd_mul z2 (Int.dvd_refl many)
 ·intro sx
  refine⟨sx.len,fun j hj=>om,fun j _ hj=>sx.uh j hj,fun k _ hk=>?_⟩;refine(row k hk).2 ?_;have e3:jJ A B W m n k*many-Ext.iv A n k x=Ext.aP (fun t=>A k (n+t)*(oL B W t*many-Ext.aP (fun j=>Ext.el g t j*gt x (j:Int)) n)) m:=by
   have e1:Ext.iv A n k x=Ext.aP (fun t=>A k (n+t)*Ext.aP (fun j=>Ext.el g t j*gt x (j:Int)) n) m:=by
    unfold Ext.iv;rw[Ext.aT n (g:=fun j=>Ext.aP (fun t=>A k (n+t)*(Ext.el g t j*gt x (j:Int))) m) (fun j hj=>by
     rw[a.tail (i:=k) om hj,<-iV];exact Ext.aT m (fun t _=>by rw[Int.mul_assoc])),<-ng]
    exact Ext.aT m (fun t _=>by rw[Ext.jV])
   unfold jJ;rw[e1,<-iV,<-Eo];exact Ext.aT m (fun t _=>by rw[Int.mul_sub,Int.mul_assoc])
  rw[e3];exact Ext.qM m (fun t ht=>Int.dvd_mul_of_dvd_right (sx.eqs t ht))
def vq(x:Fc):Rat:=rq x.n x.d
def dk(f:Nat->Rat):Nat->Rat
 |0=>0
 |n+1=>dk f n+f n
theorem dU{f g:Nat->Rat}:∀(n:Nat),(∀k,k<n->f k=g k)->dk f n=dk g n
 |0,_=>rfl
 |n+1,h=>by show dk f n+f n=dk g n+g n;rw[dU n (fun k hk=>h k om),h n om]
theorem tx(c y:Nat->Int){D:Int}(hD:D≠0):∀n,dk (fun j=>(c j:Rat)*rq (y j) D) n=rq (Ext.aP (fun j=>c j*y j) n) D
 |0=>by
  show(0:Rat)=rq 0 D;have:=jt (l:=0) hD;rw[Int.zero_mul]at this;rw[<-this];rfl
 |n+1=>by
  show dk (fun j=>(c j:Rat)*rq (y j) D) n+(c n:Rat)*rq (y n) D=rq (Ext.aP (fun j=>c j*y j) n+c n*y n) D;rw[tx c y hD n,uz,pY hD]
def fr(a b:Int):Fc:=⟨(rq a b).num,(rq a b).den⟩
theorem MZ{a b:Int}(ha:a.natAbs<=1000000000000000000)(hb:b.natAbs<=1000000000000000000)(h0:b≠0):gA (fr a b).n (fr a b).d (rq a b):=⟨rfl,rfl,mm ha hb h0⟩
theorem HV{a b:Int}(h0:0<=a)(h1:a<b)(hb:b<=1000000000000000000):ct (fr a b):=by
 have f:=MZ (a:=a) (b:=b) om om om;have fl:=wi f om;rw[Int.ediv_eq_zero_of_lt h0 h1]at fl;have hd:=f.den;refine⟨f.ok,?_,?_⟩
 ·have:=Int.emod_nonneg (fr a b).n (show(fr a b).d≠0 by omega)
  have e:=Int.emod_add_mul_ediv (fr a b).n (fr a b).d;rw[fl,Int.mul_zero]at e;omega
 ·have:=Int.emod_lt_of_pos (fr a b).n (show 0<(fr a b).d by omega)
  have e:=Int.emod_add_mul_ediv (fr a b).n (fr a b).d;rw[fl,Int.mul_zero]at e;omega
theorem HW{a b:Int}(ha:a.natAbs<=1000000000000000000)(hb:b.natAbs<=1000000000000000000)(h0:b≠0):vq (fr a b)=rq a b:=(MZ ha hb h0).rq
theorem ct.is{x:Fc}(h:ct x):gA x.n x.d (vq x):=h.1.is
theorem M0{x y:Fc}(h1:x.n=y.n)(h2:x.d=y.d):x=y:=by cases x;cases y;simp_all
theorem AB{x:Fc}(hx:ct x){y D:Int}(hD:0<D)(e:vq x=rq y D):0<=y/\y<D/\x=fr y D:=by
 have a:=hx.is;rw[e]at a;have fl:=wi a hD;rw[Int.ediv_eq_zero_of_lt hx.2.1 hx.2.2]at fl;have e1:=Int.emod_add_mul_ediv y D;rw[<-fl,Int.mul_zero]at e1;have:=Int.emod_nonneg y (show D≠0 by omega);have:=Int.emod_lt_of_pos y hD;refine⟨om,om,M0 a.1 a.2.1⟩
structure rY(g:List (List Int))(B:List Fc)(m n:Nat)(X:List Fc):Prop where
 len:X.length=n
 turn:∀j:Nat,j<n->ct (gt X (j:Int))
 eqs:∀i:Nat,i<m->∃z:Int,dk (fun j=>(Ext.el g i j:Rat)*vq (gt X (j:Int))) n=vq (gt B (i:Int))+(z:Rat)
theorem wk(f:Int->Fc)(x:List Int){j:Nat}(h:j<x.length):gt (x.map f) (j:Int)=f (gt x (j:Int)):=by
 unfold gt;rw[List.getD_eq_getElem?_getD,List.getD_eq_getElem?_getD,show((j:Int)).toNat=j from rfl,List.getElem?_map,List.getElem?_eq_getElem h];rfl
theorem AD{x y:List Fc}{n:Nat}(hx:x.length=n)(hy:y.length=n)(h:∀j:Nat,j<n->gt x (j:Int)=gt y (j:Int)):x=y:=by
 apply List.ext_getElem?;intro j;by_cases c:j<n
 ·have:=h j c
  unfold gt at this;rw[List.getD_eq_getElem?_getD,List.getD_eq_getElem?_getD,show((j:Int)).toNat=j from rfl,List.getElem?_eq_getElem om,List.getElem?_eq_getElem om]at this;rw[List.getElem?_eq_getElem om,List.getElem?_eq_getElem om];exact congrArg some this
 ·rw[List.getElem?_eq_none om,List.getElem?_eq_none om]
theorem AE{B:List Fc}{m:Nat}{W many:Int}(w:rX B m W)(hm:many≠0)(ht:∀i:Int,0<=i->i<m->ct (gt B i)/\(gt B i).d<=60){i:Nat}(hi:i<m):vq (gt B (i:Int))=rq (oL B W i*many) (W*many):=by
 have:=(w.part ht hi).1.rq;rw[wh hm];exact this
theorem MY.ZI{g:List (List Int)}{B:List Fc}{m n:Nat}{W many:Int}(w:rX B m W)(ht:∀i:Int,0<=i->i<m->ct (gt B i)/\(gt B i).d<=60)(hm:0<many)(hs:W*many<=1000000000000000000){x:List Int}(s:MY g (oL B W) m n many (W*many) x):rY g B m n (x.map (fun y=>fr y (W*many))):=by
 have sp:0<W*many:=Int.mul_pos w.pos hm;have hv:∀j:Nat,j<n->vq (gt (x.map (fun y=>fr y (W*many))) (j:Int))=rq (gt x (j:Int)) (W*many):=fun j hj=>by
  rw[wk _ x (by rw[s.len];exact hj)];obtain⟨r0,r1⟩:=s.uh j hj;exact HW om om om
 refine⟨by rw[List.length_map];exact s.len,fun j hj=>?_,fun i hi=>?_⟩
 ·rw[wk _ x (by rw[s.len];exact hj)]
  obtain⟨r0,r1⟩:=s.uh j hj;exact HV r0 r1 hs
 ·obtain⟨c,hc⟩:=s.eqs i hi
  refine⟨-c,?_⟩;rw[dU n (g:=fun j=>(Ext.el g i j:Rat)*rq (gt x (j:Int)) (W*many)) (fun j hj=>by rw[hv j hj]),tx _ _ (show W*many≠0 by omega),AE w (show many≠0 by omega) ht hi,jt (l:=-c) (show W*many≠0 by omega),pY (show W*many≠0 by omega)]
  congr 1
  rw[Int.neg_mul,Int.mul_comm c];omega
def di(D:Int)(q:Rat):Prop:=∃y:Int,q=rq y D
theorem di.add{D:Int}{p q:Rat}(hD:D≠0)(a:di D p)(b:di D q):di D (p+q):=by
 obtain⟨y,rfl⟩:=a;obtain⟨z,rfl⟩:=b;exact⟨y+z,pY hD⟩
theorem di.sub{D:Int}{p q:Rat}(hD:D≠0)(a:di D p)(b:di D q):di D (p-q):=by
 obtain⟨y,rfl⟩:=a;obtain⟨z,rfl⟩:=b;exact⟨y-z,BV hD⟩
theorem di.mul{D:Int}{q:Rat}(c:Int)(a:di D q):di D ((c:Rat)*q):=by
 obtain⟨y,rfl⟩:=a;exact⟨c*y,uz c y D⟩
theorem di.int{D:Int}(hD:D≠0)(c:Int):di D (c:Rat):=⟨c*D,jt hD⟩
theorem di.more{D c:Int}{q:Rat}(hc:c≠0)(a:di D q):di (D*c) q:=by
 obtain⟨y,rfl⟩:=a;exact⟨y*c,(wh hc).symm⟩
theorem di.sum{D:Int}(hD:D≠0){f:Nat->Rat}:∀n,(∀k,k<n->di D (f k))->di D (dk f n)
 |0,_=>⟨0,by
  have:=jt (l:=0) hD;rw[Int.zero_mul]at this;rw[<-this];rfl⟩
 |n+1,h=>(di.sum hD n (fun k hk=>h k om)).add hD (h n om)
theorem di.S3{D c:Int}{q:Rat}(hD:D≠0)(hc:c≠0)(a:di D ((c:Rat)*q)):di (D*c) q:=by
 obtain⟨y,hy⟩:=a;refine⟨y,?_⟩;have h1:=pX hD;have h2:=pX hc;unfold rq at hy ⊢;rw[Rat.intCast_mul];grind
theorem yI(f g:Nat->Rat):∀n,dk (fun k=>f k+g k) n=dk f n+dk g n
 |0=>by show(0:Rat)=0+0;grind
 |n+1=>by
  show dk (fun k=>f k+g k) n+(f n+g n)=dk f n+f n+(dk g n+g n);rw[yI f g n];grind
theorem yJ(c:Rat)(f:Nat->Rat):∀n,dk (fun k=>c*f k) n=c*dk f n
 |0=>by show(0:Rat)=c*0;grind
 |n+1=>by
  show dk (fun k=>c*f k) n+c*f n=c*(dk f n+f n);rw[yJ c f n];grind
theorem uC(f:Nat->Nat->Rat)(m:Nat):∀n,dk (fun i=>dk (fun j=>f i j) m) n=dk (fun j=>dk (fun i=>f i j) n) m
 |0=>by
  have:∀m,dk (fun _=>(0:Rat)) m=0:=fun m=>by
   induction m with
   |zero=>rfl
   |succ m ih=>show dk (fun _=>(0:Rat)) m+0=0;rw[ih];grind
  exact(this m).symm
 |n+1=>by
  show dk (fun i=>dk (fun j=>f i j) m) n+dk (fun j=>f n j) m=dk (fun j=>dk (fun i=>f i j) n+f n j) m;rw[uC f m n,yI]
theorem yK(c:Nat->Int)(q:Rat):∀n,dk (fun k=>(c k:Rat)*q) n=(Ext.aP c n:Rat)*q
 |0=>by show(0:Rat)=((0:Int):Rat)*q;rw[Rat.intCast_zero];grind
 |n+1=>by
  show dk (fun k=>(c k:Rat)*q) n+(c n:Rat)*q=((Ext.aP c n+c n:Int):Rat)*q;rw[yK c q n,Rat.intCast_add];grind
theorem bJ.over{g:List (List Int)}{m n s:Nat}{A:Nat->Ext.aQ}(a:bJ g m n n s A){B:List Fc}{W:Int}(w:rX B m W)(ht:∀i:Int,0<=i->i<m->ct (gt B i)/\(gt B i).d<=60){X:List Fc}(sx:rY g B m n X){k:Nat}(hk:k<n):di W (dk (fun j=>(A k j:Rat)*vq (gt X (j:Int))) n):=by
 have hs:=a.sum;have wp:=w.pos;have e:dk (fun j=>(A k j:Rat)*vq (gt X (j:Int))) n=dk (fun t=>(A k (n+t):Rat)*dk (fun j=>(Ext.el g t j:Rat)*vq (gt X (j:Int))) n) m:=by
  rw[dU n (g:=fun j=>dk (fun t=>(A k (n+t):Rat)*((Ext.el g t j:Rat)*vq (gt X (j:Int)))) m) (fun j hj=>by
   rw[a.tail (i:=k) om hj,<-yK];exact dU m (fun t _=>by rw[Rat.intCast_mul];grind)),<-uC]
  exact dU m (fun t _=>by rw[yJ])
 rw[e];refine di.sum om m (fun t W8=>di.mul _ ?_);obtain⟨z,hz⟩:=sx.eqs t W8;rw[hz];exact di.add om ⟨_,(w.part ht W8).1.rq⟩ (di.int om z)
theorem HX{f:Nat->Rat}{k:Nat}:∀n,k<n->dk f n=f k+dk (fun j=>if j=k then 0 else f j) n
 |0,h=>om
 |n+1,h=>by
  show dk f n+f n=f k+(dk (fun j=>if j=k then 0 else f j) n+if n=k then 0 else f n);by_cases c:k=n
  ·subst c
   rw[if_pos rfl,dU (f:=fun j=>if j=k then 0 else f j) (g:=f) k (fun j hj=>by rw[if_neg om])];grind
  ·rw[if_neg (show ¬n=k by omega),HX (k:=k) n om]
   grind
theorem bJ.Q6{g:List (List Int)}{m n s:Nat}{A:Nat->Ext.aQ}(a:bJ g m n n s A){B:List Fc}{W:Int}(w:rX B m W)(ht:∀i:Int,0<=i->i<m->ct (gt B i)/\(gt B i).d<=60){X:List Fc}(sx:rY g B m n X):∀d,d<=n->∃c:Int,c≠0/\c*Ext.Mk A (n-d)=Ext.Mk A n/\∀j:Nat,n-d<=j->j<n->di (W*c) (vq (gt X (j:Int)))
 |0,_=>⟨1,by decide,by rw[Int.one_mul];rfl,fun j h1 h2=>om⟩
 |d+1,h=>by
  obtain⟨c,c0,c1,c2⟩:=bJ.Q6 a w ht sx d om;have wp:=w.pos;obtain⟨k,ek⟩:∃k,k=n-(d+1):=⟨_,rfl⟩;have e1:n-d=k+1:=om
  rw[<-ek];rw[e1]at c1 c2;have ap:=a.diag (i:=k) om;have D0:W*c≠0:=Int.mul_ne_zero om c0;refine⟨c*A k k,Int.mul_ne_zero c0 om,?_,fun j h1 h2=>?_⟩
  ·rw[<-c1]
   show c*A k k*Ext.Mk A k=c*(Ext.Mk A k*A k k);rw[Int.mul_assoc,Int.mul_comm (A k k)]
  ·rw[<-Int.mul_assoc]
   by_cases e:j=k
   ·subst e
    refine di.S3 D0 om ?_;have h3:=a.over w ht sx (k:=j) h2;have h4:=(h3.more c0:di (W*c) _);rw[HX (k:=j) n h2]at h4;have h5:di (W*c) (dk (fun i=>if i=j then 0 else(A j i:Rat)*vq (gt X (i:Int))) n):=di.sum D0 n (fun i hi=>by
     show di (W*c) (if i=j then 0 else(A j i:Rat)*vq (gt X (i:Int)));by_cases q:i=j
     ·rw[if_pos q]
      have:=di.int D0 0;rw[Rat.intCast_zero]at this;exact this
     ·rw[if_neg q]
      by_cases l:i<j
      ·have z:A j i=0:=Ext.bz (w:=n+m) (by rw[a.wj h2];exact l)
       rw[z,Rat.intCast_zero];have:=di.int D0 0;rw[Rat.intCast_zero]at this;rw[show(0:Rat)*vq (gt X (i:Int))=0 by grind];exact this
      ·exact di.mul _ (c2 i om hi))
    have h6:=di.sub D0 h4 h5;rw[show(A j j:Rat)*vq (gt X (j:Int))+dk (fun i=>if i=j then 0 else(A j i:Rat)*vq (gt X (i:Int))) n-dk (fun i=>if i=j then 0 else(A j i:Rat)*vq (gt X (i:Int))) n=(A j j:Rat)*vq (gt X (j:Int)) by grind]at h6;exact h6
   ·exact(c2 j om h2).more om
theorem bJ.back{g:List (List Int)}{m n s:Nat}{A:Nat->Ext.aQ}(a:bJ g m n n s A){B:List Fc}{W:Int}(w:rX B m W)(ht:∀i:Int,0<=i->i<m->ct (gt B i)/\(gt B i).d<=60){X:List Fc}(sx:rY g B m n X):∃x,MY g (oL B W) m n (Ext.Mk A n) (W*Ext.Mk A n) x/\X=x.map (fun y=>fr y (W*Ext.Mk A n)):=by
 obtain⟨c,c0,c1,c2⟩:=a.Q6 w ht sx n (Nat.le_refl n);rw[Nat.sub_self]at c1 c2;have ec:c=Ext.Mk A n:=by rw[<-c1];show c=c*1;rw[Int.mul_one]
 have mp:=pZ n (fun i hi=>a.diag hi);have sp:0<W*Ext.Mk A n:=Int.mul_pos w.pos mp;rw[ec]at c2;obtain⟨size,es⟩:∃z,z=W*Ext.Mk A n:=⟨_,rfl⟩;rw[<-es]at c2 sp ⊢;have:∃y:Nat->Int,∀j:Nat,j<n->vq (gt X (j:Int))=rq (y j) size:=by
  have hy:∀j:Nat,∃y:Int,j<n->vq (gt X (j:Int))=rq y size:=fun j=>by
   by_cases h:j<n
   ·obtain⟨y,hy⟩:=c2 j (Nat.zero_le j) h
    exact⟨y,fun _=>hy⟩
   ·exact⟨0,fun q=>absurd q h⟩
  exact⟨fun j=>(hy j).choose,fun j hj=>(hy j).choose_spec hj⟩
 obtain⟨y,hy⟩:=this;have hp:∀j:Nat,j<n->0<=y j/\y j<size/\gt X (j:Int)=fr (y j) size:=fun j hj=>AB (sx.turn j hj) sp (hy j hj)
 have gy:∀j:Nat,j<n->gt (kW y n) (j:Int)=y j:=fun j hj=>jq y hj
 refine⟨kW y n,⟨bN y n,fun j hj=>?_,fun i hi=>?_⟩,?_⟩
 ·rw[gy j hj];exact⟨(hp j hj).1,(hp j hj).2.1⟩
 ·obtain⟨z,hz⟩:=sx.eqs i hi
  rw[dU n (g:=fun j=>(Ext.el g i j:Rat)*rq (y j) size) (fun j hj=>by rw[hy j hj]),tx _ _ (show size≠0 by omega),AE w (show Ext.Mk A n≠0 by omega) ht hi,<-es,jt (l:=z) (show size≠0 by omega),pY (show size≠0 by omega)]at hz;have h2:=(ME (show size≠0 by omega)).1 hz;rw[Ext.aT n (f:=fun j=>Ext.el g i j*gt (kW y n) (j:Int)) (g:=fun j=>Ext.el g i j*y j) (fun j hj=>by rw[gy j hj]),h2];exact⟨-z,by rw[Int.mul_neg,Int.mul_comm size];omega⟩
 ·exact AD sx.len (by rw[List.length_map,bN]) (fun j hj=>by
   rw[wk _ _ (by rw[bN];exact hj),gy j hj];exact(hp j hj).2.2)
def JD(n:Nat)(X Y:List Fc):Prop:=∃k:Nat,k<n/\(∀j:Nat,j<k->gt X (j:Int)=gt Y (j:Int))/\vq (gt X (k:Int))<vq (gt Y (k:Int))
theorem JD.irr{n:Nat}{X:List Fc}:¬JD n X X:=fun⟨_,_,_,h⟩=>Rat.lt_irrefl h
structure S4(g:List (List Int))(B:List Fc)(m n:Nat)(L:List (List Fc)):Prop where
 mem:∀X,X∈L↔rY g B m n X
 ord:L.Pairwise (JD n)
structure EO(h:af)(g:List (List Int))(B:List Fc)(m n s:Nat)(A:Nat->Ext.aQ)(W many size:Int)(pa qa:Option Addr)(bs:Nat->Nat):Prop where
 hM:rV g m n
 st:bJ g m n n s A
 w:rX B m W
 ht:∀i:Int,0<=i->i<m->ct (gt B i)/\(gt B i).d<=60
 hd:Rows Hd.cells 1 h pa n (kG bs (n+m) n)
 rows:∃hz,dM hz h m (n+m) bs A
 oL:Rows nC 1 h qa m (zK B W m)
 em:many=Ext.Mk A n
 m64:many<=64
 es:size=W*many
section
variable{h:af}{g:List (List Int)}{B:List Fc}{m n s:Nat}{A:Nat->Ext.aQ}{W many size:Int}{pa qa:Option Addr}{bs:Nat->Nat}
theorem EO.more{h':af}(t:EO h g B m n s A W many size pa qa bs)(e:Ext h h'):EO h' g B m n s A W many size pa qa bs:=
 ⟨t.hM,t.st,t.w,t.ht,t.hd.ext e,by obtain⟨hz,r⟩:=t.rows;exact⟨hz,r.more e⟩,t.oL.ext e,t.em,t.m64,t.es⟩
theorem EO.JC(t:EO h g B m n s A W many size pa qa bs):Ext.zJ A (gp A B W m n) size n:=by
 have:=t.st.JC (B:=B) t.w.pos;rw[<-t.em,<-t.es]at this;exact this
theorem EO.M3(t:EO h g B m n s A W many size pa qa bs):0<W/\W<=12960000/\1<=many/\many<=64/\0<size/\size<=829440000:=by
 have h1:=t.w.pos;have h2:=t.w.gn t.hM.m4;have h3:=pZ (A:=A) n (fun i hi=>t.st.diag hi);rw[<-t.em]at h3;have h4:=t.m64;have h5:W*many<=12960000*64:=Int.mul_le_mul h2 h4 om om;have h6:=Int.mul_pos h1 h3;have:=t.es;omega
theorem EO.lead(t:EO h g B m n s A W many size pa qa bs){k:Nat}(hk:k<n):1<=A k k/\A k k<=64:=by
 have h1:=t.st.diag hk;have h2:=(t.JC).mk_le (k:=k+1) om;rw[<-t.em]at h2;have h3:A k k∣many:=Int.dvd_trans ⟨Ext.Mk A k,by show Ext.Mk A k*A k k=_;rw[Int.mul_comm]⟩ h2;have:=Int.le_of_dvd (by have:=t.M3;omega) h3;have:=t.m64;omega
end
theorem yL{α:Type}[Inhabited α](l:List α){i:Nat}{I:Int}(eI:I=i)(h:i<l.length):l.take (i+1)=l.take i++[gt l I]:=by
 rw[List.take_succ_eq_append_getElem h]
 congr 2
 unfold gt;rw[eI,show((i:Int)).toNat=i from rfl,List.getD_eq_getElem?_getD,List.getElem?_eq_getElem h];rfl
variable{F:aZ}{call head arith a0 b0 d0 f0 g0 j0 k0 l0 ofNat m0 place n0 nz o0 rd wr t0 next u0 nat v0 w0 x0 a1 d1 g1 j1 part l1 t1 u1 v1 d2 aG f2 g2 lt ne i2 j2 l2 yn uh n2 o2 p2 q2 r2:_}(hA:AP F ⟨call,head,arith,a0,b0,d0,f0,g0,j0,k0,l0,ofNat,m0,place,n0,nz,o0,rd,wr,t0,next,u0,nat,v0,w0,x0,a1,d1,g1,j1,part,l1,t1,u1,v1,d2,aG,f2,g2,lt,ne,i2,j2,l2,yn,uh,n2,o2,p2,q2,r2⟩)
include hA
theorem M4{h:af}(aq:h.low<=h.next){h0:af}{m n r s pc qc:Nat}{pa qa:Option Addr}{rb:Nat->Nat}{g:List (List Int)}{B:List Fc}{A:Nat->Ext.aQ}(hM:rV g m n)(a:bJ g m n r s A)(ht:∀i:Int,0<=i->i<m->ct (gt B i)/\(gt B i).d<=60){W:Int}(w:rX B m W)(hp:Rows nC 1 h pa m (zK B W m))(hr:EK h0 h s m qa qc rb (fun y j=>A (r+y) (n+j))){S:Int}(eS:S=s){c1:List Value}{Q:Exit->SS->Prop}
  (fO:(¬∀i,i<s->Ext.aP (fun j=>A (r+i) (n+j)*oL B W j) m % W=0)->∀env kn T,Q .ret ⟨(2,.bool false) :: env,kn,T,h⟩)
  (cW:(∀i,i<s->Ext.aP (fun j=>A (r+i) (n+j)*oL B W j) m % W=0)->∀kn T,Q (.exit 0) ⟨[],kn,T,h⟩) :
  ∀(d i:Nat) (I:Int),s-i<=d->i<=s->I=i->(∀j,j<i->Ext.aP (fun k=>A (r+j) (n+k)*oL B W k) m % W=0)->
   head 27 4 1 ⟨[(3,.slice pa m pc),(4,.int .i64 W),(21,.slice qa s qc),(22,.int .i64 S),(23,.int .i64 I)],1,[(0,c1)],h⟩ Q:=by
 intro d;have m4:=hM.m4;have hs:=a.sum;have hW:=w.gn m4
 induction d with
 |zero=>
  intro i I hd hi eI hz;refine hA.ar Tryz.func27 x27.2 (zc ?_);refine br (I<S) (by rw[aA hA]) (fun q=>om) (fun _=>?_)<;>refine zc ?_;exact cW (fun j hj=>hz j om) _ _
 |succ d ih=>
 intro i I hd hi eI hz;by_cases ci:i<s
 rotate_left
 ·refine hA.ar Tryz.func27 x27.2 (zc ?_)
  refine br (I<S) (by rw[aA hA]) (fun q=>om) (fun _=>?_)<;>refine zc ?_;exact cW (fun j hj=>hz j om) _ _
 obtain⟨b,rfl,_,q1⟩:=hr.head ci;obtain⟨cw,pR⟩:∃z,z=aw 1 m:=⟨_,rfl⟩;rw[<-pR]at q1;have r1:rd h b (place 0 I 1) 1 [.slice (some ⟨rb i,0,none⟩) m cw]:=aD hA (by rw[eI];exact q1);have rw1:=hr.rows.jJ ci;have ev:∀v,v=Ext.aP (fun k=>gt (kW (fun j=>A (r+i) (n+j)) m) (k:Int)*gt (zK B W m) (k:Int)) m % W->v=Ext.aP (fun k=>A (r+i) (n+k)*oL B W k) m % W:=fun v hv=>by
  rw[hv]
  congr 1
  exact Ext.aT m (fun k hk=>by rw[jq _ hk,BZ hk])
 refine hA.ar Tryz.func27 x27.2 (zc ?_);refine br (I<S) (by rw[aA hA]) (fun _=>?_) (fun q=>om)<;>refine zc ?_;refine zq ?_;refine BW hA aq rw1 hp (Nat.le_refl m) om (B:=8162933760000) (fun k hk=>?_) om w.pos om (fun v hv=>⟨v,rfl,?_⟩)
 ·rw[jq _ hk,BZ hk]
  obtain⟨_,p0,p1,_⟩:=w.part ht hk;exact HU (a.small hM om _) p0 p1 hW
 have Cz:=ev v hv;clear hv ev;refine zq ?_;refine br (v≠0) (by rw[bT hA]) (fun c=>?_) (fun c=>?_)<;>refine zc ?_
 ·refine zq ?_
  exact fO (fun q=>c (Cz.trans (q i ci))) _ _ _
 ·refine zq ?_
  rw[aF hA om om];refine ih (i+1) (I+1) om om om (fun j hj=>?_);by_cases e:j=i
  ·rw[e,<-Cz];omega
  ·exact hz j om
theorem vk(hI:rT F){h:af}(aq:h.low<=h.next){m n ac k bc:Nat}{aa ba:Option Addr}{dA:List Hd}{g:List (List Int)}{B:List Fc}(hM:rV g m n)(hg:qT nC 1 h aa m dA g)(hB:Rows fC 2 h ba k B)(ekm:k=m)(ht:∀i:Int,0<=i->i<m->ct (gt B i)/\(gt B i).d<=60){Q:Value->af->Prop}
  (hQ:∀(b:Bool) h',(b=true↔mn g B m n)->Ext h h'->Q (.bool b) h'):call 27 [.agg #[.slice aa m ac,.slice ba k bc]] h Q:=by
 subst ekm;refine hA.aN Tryz.func27 x27.2 (hA.alike _ _ _ rfl) aq (zc ?_);refine zq ?_;refine AA hA aq hB hM.m4 ht (fun W h1 pa pc w t x1=>⟨_,_,_,_,rfl,?_⟩);refine zq ?_;refine Ee hA hI (x1.aC aq) hM (hg.ext x1) (fun h2 r s ra rc qa qc bs rb A st rw hd gd _=>⟨_,_,_,_,_,_,rfl,?_⟩);obtain⟨S,eS⟩:∃z:Int,z=s:=⟨_,rfl⟩;have e0:ofNat s=S:=by rw[eS];exact aI hA s
 have x2:=rw.ext
 (refine zq ?_;repeat ((first|rw[e0]);refine zq ?_))
 refine M4 hA (x2.aC (x1.aC aq)) hM st ht w ⟨(t.ext x2).cells,gV,om⟩ gd eS (fun q env kn T=>?_) (fun q kn T=>?_) s 0 0 om om rfl (fun j hj=>om)
 ·refine zq ?_
  exact hQ false h2 ⟨(fun q=>by cases q),fun z=>absurd ((st.holds ht w).2 z) q⟩ (x1.trans x2)
 ·refine zq ?_
  exact hQ true h2 ⟨fun _=>(st.holds ht w).1 q,fun _=>rfl⟩ (x1.trans x2)
theorem Ep(hI:rT F){h:af}(aq:h.low<=h.next){m ac k bc:Nat}{aa ba:Option Addr}{dA:List Hd}{g:List (List Int)}{B:List Fc}(hg:zb nC 1 h aa m dA g)(hB:Rows fC 2 h ba k B)(hi:∀i:Int,0<=i->i<k->i64 (gt B i).n/\i64 (gt B i).d){Q:Value->af->Prop}
  (V4:∀e h',ju g B e->e≠0->Ext h h'->Q (.tuple #[.bool false,.int .i64 e]) h')
  (S5:∀(b:Bool) h' n,ju g B 0->rV g m n->(b=true↔mn g B m n)->Ext h h'->Q (.tuple #[.bool b,.int .i64 0]) h'):call 9 [.agg #[.slice aa m ac,.slice ba k bc]] h Q:=by
 refine hA.aN Tryz.func9 x9.2 (hA.alike _ _ _ rfl) aq (zc ?_);refine zq ?_;refine yF hA aq hg hB hi (fun e h1 he x1=>⟨e,rfl,?_⟩);refine zq ?_;refine br (e≠0) (by rw[bT hA]) (fun c=>?_) (fun c=>?_)<;>refine zc ?_
 ·refine zq ?_
  exact V4 e h1 he c x1
 obtain rfl:e=0:=om
 obtain⟨gd,nm⟩:=he.qP;obtain⟨m',n,hM⟩:=gd.Zy nm;obtain rfl:m=m':=by have:=hg.len;have:=hM.len;omega
 have A4:=hg.full (fun y y0 y1=>by rw[hM.row y y0 y1];exact hM.n1);have T2:k=m:=by have:=gd.len;have:=hB.len;have:=hg.len;omega
 refine zq ?_;refine vk hA hI (x1.aC aq) hM (A4.ext x1) (hB.ext x1) T2 (fun i i0 i1=>gd.turn i i0 (by have:=hB.len;omega)) (fun b h2 hb x2=>⟨b,rfl,?_⟩);refine zq ?_;exact S5 b h2 n he hM hb (x1.trans x2)
theorem V5{hs:af}(fw:hs.low<=hs.next){g:List (List Int)}{B:List Fc}{m n s:Nat}{A:Nat->Ext.aQ}{W many size:Int}{pa qa:Option Addr}{bs:Nat->Nat}(t:EO hs g B m n s A W many size pa qa bs){k:Nat}(hk:k<n){xb xo xc pc qc fc fn T3 wd:Nat}{fa:Option Addr}{x:List Int}(hx:Rows nC 1 hs (some ⟨xb,xo,none⟩) n x){NI K F right L FN FI:Int}(eK:K=k)(eF:F=A k k)(eL:L=Ext.na A (gp A B W m n) size n k x)(L0:0<=L)(L1:L<size){base:List (List Int)}(hb:base.length<=5000){Q:Exit->SS->Prop}
  (hQ:∀h' a N c hd,BQ hs h' a N c hd (base++(List.range (A k k).toNat).map (Ext.jv A (gp A B W m n) size n k x))->Q (.exit 4) ⟨[(0,.slice pa n pc),(1,.slice qa m qc),(2,.int .i64 W),(3,.int .i64 many),(9,.int .i64 NI),(10,.int .i64 size),(12,.int .i64 K),(13,.slice (some ⟨bs k,0,none⟩) wd T3),(14,.int .i64 F),(15,.int .i64 right),(16,.slice a N c),(55,.slice fa fn fc),(56,.int .i64 FN),(57,.int .i64 FI)],13,[],h'⟩) :
  ∀(d i:Nat) (I:Int) (h:af) (a:Option Addr) (N c:Nat) (hd:List Hd),(A k k).toNat-i<=d->i<=(A k k).toNat->I=i->BQ hs h a N c hd (base++(List.range i).map (Ext.jv A (gp A B W m n) size n k x))->
   head 30 16 13 ⟨[(0,.slice pa n pc),(1,.slice qa m qc),(2,.int .i64 W),(3,.int .i64 many),(9,.int .i64 NI),(10,.int .i64 size),(12,.int .i64 K),(13,.slice (some ⟨bs k,0,none⟩) wd T3),(14,.int .i64 F),(15,.int .i64 right),(16,.slice a N c),(18,.slice (some ⟨xb,xo,none⟩) n xc),(19,.int .i64 L),(55,.slice fa fn fc),(56,.int .i64 FN),(57,.int .i64 FI),(76,.int .i64 F),(77,.int .i64 I)],13,[],h⟩ Q:=by
 intro d;have n4:=t.hM.n4;obtain⟨W0,W1,y0,y1,s0,s1⟩:=t.M3;obtain⟨f1,f64⟩:=t.lead hk
 induction d with
 |zero=>
  intro i I h a N c hd wJ hi eI lo;refine hA.ar Tryz.func30 x30.2 (zc ?_);refine br (I<F) (by rw[aA hA]) (fun q=>om) (fun _=>?_)<;>refine zc ?_;obtain rfl:i=(A k k).toNat:=om
  exact hQ h a N c hd lo
 |succ d ih=>
 intro i I h a N c hd wJ hi eI lo;by_cases ci:i<(A k k).toNat
 rotate_left
 ·refine hA.ar Tryz.func30 x30.2 (zc ?_)
  refine br (I<F) (by rw[aA hA]) (fun q=>om) (fun _=>?_)<;>refine zc ?_;obtain rfl:i=(A k k).toNat:=om
  exact hQ h a N c hd lo
 have xe:=lo.s.ext;have aq:=xe.aC fw;refine hA.ar Tryz.func30 x30.2 (zc ?_);refine br (I<F) (by rw[aA hA]) (fun _=>?_) (fun q=>om)<;>refine zc ?_;refine zq ?_;refine yE hA aq (hx.ext xe) om (fun h1 b1 c1 o1 x1 lb=>⟨_,_,_,rfl,?_⟩);obtain⟨k1,k2,k3,k4⟩:=o1;obtain⟨h9,Ay⟩:∃z,z=aG h1 13:=⟨_,rfl⟩;have SV:Ext h1 h9:=by rw[Ay];exact au hA _ _
 have x9:=x1.trans SV;obtain⟨q,eq⟩:∃z,z=L / F:=⟨_,rfl⟩;obtain⟨z,ez⟩:∃z,z=size / F:=⟨_,rfl⟩;have m1:arith .quo .i64 L F=q:=by rw[eq];exact ve hA L0 om om
 have m2:arith .quo .i64 size F=z:=by rw[ez];exact ve hA om om om
 have q0:0<=q/\q<=L:=by rw[eq];exact⟨Int.ediv_nonneg L0 om,Int.ediv_le_self _ L0⟩
 have z0:0<=z/\z<=size:=by rw[ez];exact⟨Int.ediv_nonneg om om,Int.ediv_le_self _ om⟩
 obtain⟨u,eu⟩:∃u,u=I*z:=⟨_,rfl⟩;have ub:0<=u/\u<=64*829440000:=by
  rw[eu];exact⟨Int.mul_nonneg om z0.1,Int.mul_le_mul om om z0.1 om⟩
 have m3:arith .mul .i64 I z=u:=by rw[eu];exact jn hA (by rw[<-eu];omega) (by rw[<-eu];omega)
 obtain⟨v,ev⟩:∃v,v=q+u:=⟨_,rfl⟩;have m4:arith .add .i64 q u=v:=by rw[ev];exact aF hA om om
 have lx:=hx.len;have ZJ:=k1.ext SV k2;obtain⟨h2,w1,w2,w3⟩:=bW.setRow ZJ gV (i:=k) om v;have w1:wr h9 b1 (place 0 K 1) [.int .i64 v] h2:=yk hA (by rw[eK,Nat.zero_add];exact w1);have xh2:Ext h h2:=w3.ext x9 lb;have e1:x.set k v=Ext.jv A (gp A B W m n) size n k x i:=by
  unfold Ext.jv;rw[ev,eu,ez,eq,eL,eF,eI]
 have VP:c1=aw 1 n:=by rcases k4 with ⟨_,q⟩|q;omega;exact q
 have v9:=lo.more xh2;have nx2:h2.next=h9.next:=w3.next;have nx9:=x9.next;have b2:b1<h2.next:=by have:=SV.next;omega
 have S6:Rows nC 1 h2 (some ⟨b1,0,none⟩) n (x.set k v):=by
  have:=bW.rows w2 gV om b2;rw[List.length_set,lx]at this;exact this
 rw[e1]at S6;have al:∀ad,a=some ad->ad.block<h.next:=fun ad cX=>lo.pQ.lt ad cX
 have wE:=xe.next;have hN:N<=6000:=by
  rw[<-lo.s.gr.len,List.length_append,List.length_map,List.length_range];omega
 refine zq ?_;rw[<-Ay]
 (refine zq ?_;repeat ((first|rw[m1]|rw[m2]|rw[m3]|rw[m4]);refine zq ?_))
 refine we hA Ar gJ om HL (v:=(⟨some ⟨b1,0,none⟩,n,c1⟩:Hd)) v9.pQ om (fun b' h' a' x' n' SG k'=>?_);have t2:=v9.add (k:=⟨some ⟨b1,0,none⟩,n,c1⟩) S6 (fun _=>.inr VP) (fun ad cX=>by cases cX;show hs.next<=b1;omega) (fun ad cX bd lV=>by cases lV;have:=al ad cX;show b1≠_;omega) a' (x' hs v9.s.ext lo.s.fr) n' SG k';have et:base++(List.range i).map (Ext.jv A (gp A B W m n) size n k x)++[Ext.jv A (gp A B W m n) size n k x i]=base++(List.range (i+1)).map (Ext.jv A (gp A B W m n) size n k x):=by
  rw[List.range_succ,List.map_append,List.append_assoc];rfl
 rw[et]at t2;clear eL e1 S6 et;generalize aw 1 (N+1)=cc at *;obtain⟨N1,eN1⟩:∃z,z=N+1:=⟨_,rfl⟩;rw[<-eN1]at t2 ⊢;refine zq ?_;rw[aF hA om om];exact ih (i+1) (I+1) h' (some ⟨b',0,none⟩) N1 cc _ om om om t2
omit hA in
theorem PJ(a b n:Int):(a-b % n) % n=(a-b) % n:=by
 have h:=Int.emod_add_mul_ediv b n;have e:a-b % n=(a-b)+n*(b / n):=om
 rw[e,Int.add_mul_emod_self_left]
theorem S7{hs:af}(fw:hs.low<=hs.next){g:List (List Int)}{B:List Fc}{m n s:Nat}{A:Nat->Ext.aQ}{W many size:Int}{pa qa:Option Addr}{bs:Nat->Nat}(t:EO hs g B m n s A W many size pa qa bs){k:Nat}(hk:k<n){pc qc fc fn T3 wd:Nat}{fa:Option Addr}{fh:List Hd}{hz:af}{l:List (List Int)}(lf:J5 hz hs fa fn fh l)(hl:∀x,x∈l->Ext.BY A (gp A B W m n) size n (k+1) x)(f64:fn<=64){NI K F right FN:Int}(eN:NI=n)(eK:K=k)(eF:F=A k k)(eR:right=gp A B W m n k)(ZK:FN=fn)(ZL:wd=n+m)(erw:T3=aw 1 wd){Q:Exit->SS->Prop}
  (hQ:∀h' a N c hd,BQ hs h' a N c hd (Ext.ig A (gp A B W m n) size n k l)->Q (.exit 2) ⟨[(0,.slice pa n pc),(1,.slice qa m qc),(2,.int .i64 W),(3,.int .i64 many),(9,.int .i64 NI),(10,.int .i64 size),(12,.int .i64 K),(16,.slice a N c)],13,[],h'⟩) :
  ∀(d i:Nat) (I:Int) (h:af) (a:Option Addr) (N c:Nat) (hd:List Hd),fn-i<=d->i<=fn->I=i->BQ hs h a N c hd (Ext.ig A (gp A B W m n) size n k (l.take i))->
   head 30 11 13 ⟨[(0,.slice pa n pc),(1,.slice qa m qc),(2,.int .i64 W),(3,.int .i64 many),(9,.int .i64 NI),(10,.int .i64 size),(12,.int .i64 K),(13,.slice (some ⟨bs k,0,none⟩) wd T3),(14,.int .i64 F),(15,.int .i64 right),(16,.slice a N c),(55,.slice fa fn fc),(56,.int .i64 FN),(57,.int .i64 I)],13,[],h⟩ Q:=by
 intro d;have n4:=t.hM.n4;have m4:=t.hM.m4;have n1:=t.hM.n1;have m1:=t.hM.m1;have sum:=t.st.sum;obtain⟨W0,W1,y0,y1,s0,s1⟩:=t.M3;obtain⟨f1,f64'⟩:=t.lead hk;have ll:=lf.gr.len;have r0:0<=right/\right<=829440000:=by
  have e1:=Int.emod_nonneg (jJ A B W m n k) (show W≠0 by omega);have e2:=Int.emod_lt_of_pos (jJ A B W m n k) W0;have e3:right=jJ A B W m n k % W*many:=by rw[eR];unfold gp;rw[t.em]
  rw[e3];exact⟨Int.mul_nonneg e1 om,Int.mul_le_mul (show jJ A B W m n k % W<=12960000 by omega) (show many<=64 by omega) om om⟩
 induction d with
 |zero=>
  intro i I h a N c hd wJ hi eI lo;refine hA.ar Tryz.func30 x30.2 (zc ?_);refine br (I<FN) (by rw[aA hA]) (fun q=>om) (fun _=>?_)<;>refine zc ?_;rw[List.take_of_length_le om]at lo;exact hQ h a N c hd lo
 |succ d ih=>
 intro i I h a N c hd wJ hi eI lo;by_cases ci:i<fn
 rotate_left
 ·refine hA.ar Tryz.func30 x30.2 (zc ?_)
  refine br (I<FN) (by rw[aA hA]) (fun q=>om) (fun _=>?_)<;>refine zc ?_;rw[List.take_of_length_le om]at lo;exact hQ h a N c hd lo
 have xe:=lo.s.ext;have aq:=xe.aC fw;obtain⟨x,ex⟩:∃x,x=gt l I:=⟨_,rfl⟩;have W3:x∈l:=by rw[ex];exact BH l om om
 have sx:=hl x W3;have JE:=lf.gr.row I om om;have zz:=JE.len;rw[<-ex,sx.len]at zz;rw[<-ex,<-zz]at JE;obtain⟨fb,fo,rfl,_,q1⟩:=(lf.gr.ext xe).mG (i:=I) om om;rw[<-zz]at q1;obtain⟨xb,xo,exa,_⟩:=JE.at (i:=0) om om;rw[exa]at JE q1;obtain⟨xc,exc⟩:∃z,z=(gt fh I).c:=⟨_,rfl⟩;rw[<-exc]at q1;have r1:rd h fb (place fo I 1) 1 [.slice (some ⟨xb,xo,none⟩) n xc]:=aD hA q1;obtain⟨za,rws⟩:=(t.more xe).rows;have uJ:=rws.jJ (y:=k) om;have front:Rows nC 1 h (some ⟨bs k,0,none⟩) n (kW (A k) n):=by
  refine⟨?_,gV,om⟩;have:=uJ.cells.head (m:=n) om;have e:((kW (A k) (n+m)).flatMap nC).take (n*1)=(kW (A k) n).flatMap nC:=by
   rw[Gs gV]
   congr 1
   apply List.ext_getElem?;intro j;rw[List.getElem?_take];by_cases c:j<n
   ·rw[if_pos c,jK _ om,jK _ c]
   ·rw[if_neg c,List.getElem?_eq_none (by rw[bN];omega)]
  rw[e]at this;exact this
 have Iz:cL T3=wd:=by rw[erw];exact cg (by unfold aR;omega)
 obtain⟨S,eS⟩:∃S,S=Ext.iv A n k x:=⟨_,rfl⟩;obtain⟨S2,ZM⟩:∃z,z=S % size:=⟨_,rfl⟩;have S20:0<=S2/\S2<size:=by rw[ZM];exact⟨Int.emod_nonneg _ om,Int.emod_lt_of_pos _ s0⟩
 obtain⟨L0,eL0⟩:∃z,z=right-S2:=⟨_,rfl⟩;have m1':arith .sub .i64 right S2=L0:=by rw[eL0];exact bP hA om om
 obtain⟨L,eL⟩:∃z,z=L0 % size:=⟨_,rfl⟩;have Lr:0<=L/\L<size:=by rw[eL];exact⟨Int.emod_nonneg _ om,Int.emod_lt_of_pos _ s0⟩
 have eLX:L=Ext.na A (gp A B W m n) size n k x:=by
  unfold Ext.na;rw[eL,eL0,ZM,PJ,eS,eR]
 have fl:=Int.emod_add_mul_ediv L0 size;rw[<-eL]at fl;obtain⟨fq,efq⟩:∃z,z=L0 / size:=⟨_,rfl⟩;rw[<-efq]at fl;obtain⟨u,eu⟩:∃z,z=size*fq:=⟨_,rfl⟩;rw[<-eu]at fl;have m2:arith .mul .i64 size fq=u:=by rw[eu];exact jn hA (by rw[<-eu];omega) (by rw[<-eu];omega)
 have m3:arith .sub .i64 L0 u=L:=by rw[bP hA om om];omega
 have bl:(Ext.ig A (gp A B W m n) size n k (l.take i)).length<=5000:=by
  have h1:=HS (fun x=>(List.range (A k k).toNat).map (Ext.jv A (gp A B W m n) size n k x)) 64 (fun x=>by rw[List.length_map,List.length_range];omega) (l.take i);have h2:(l.take i).length<=64:=by rw[List.length_take];omega
  have h3:(l.take i).length*64<=64*64:=Nat.mul_le_mul_right _ h2;unfold Ext.ig;omega
 refine hA.ar Tryz.func30 x30.2 (zc ?_);refine br (I<FN) (by rw[aA hA]) (fun _=>?_) (fun q=>om)<;>refine zc ?_;refine zq ?_;refine⟨by rw[Lz hA,Iz];exact⟨om,om⟩,?_⟩;refine zc ?_;rw[show nat NI=n by rw[Ho hA];omega];refine zq ?_;refine BW hA aq front (JE.ext xe) (Nat.le_refl n) om (B:=600000000000000) (fun j hj=>?_) om s0 om (fun v hv=>⟨v,rfl,?_⟩)
 ·rw[jq _ hj]
  have h1:=t.st.small t.hM (i:=k) om j;have h2:(gt x (j:Int)).natAbs<=829440000:=by
   by_cases c:j<k+1
   ·rw[sx.zero j c];decide
   ·have:=sx.uh j om hj;omega
  have:=Ext.jL h1 h2;omega
 obtain rfl:v=S2:=by
  rw[hv,ZM,eS]
  congr 1
  unfold Ext.iv;exact Ext.aT n (fun j hj=>by rw[jq _ hj])
 (refine zq ?_;repeat ((first|rw[m1']);refine zq ?_))
 refine qE hA s0 om om aq (fun q' Vo=>⟨q',rfl,?_⟩);obtain rfl:q'=fq:=by rw[Vo,efq]
 (refine zq ?_;repeat ((first|rw[m1']|rw[m2]|rw[m3]);refine zq ?_))
 refine V5 hA fw t hk JE eK eF eLX Lr.1 Lr.2 (base:=Ext.ig A (gp A B W m n) size n k (l.take i)) bl (fun h2 a2 N2 c2 TD v9=>?_) (A k k).toNat 0 0 h a N c hd om (Nat.zero_le _) rfl (by rw[List.range_zero,List.map_nil,List.append_nil];exact lo);have et:Ext.ig A (gp A B W m n) size n k (l.take i)++(List.range (A k k).toNat).map (Ext.jv A (gp A B W m n) size n k x)=Ext.ig A (gp A B W m n) size n k (l.take (i+1)):=by
  have h1:l.take (i+1)=l.take i++[x]:=by
   rw[ex];exact yL l eI om
  rw[h1];unfold Ext.ig;rw[List.flatMap_append];simp
 rw[et]at v9;refine zq ?_;rw[aF hA om om];exact ih (i+1) (I+1) h2 a2 N2 c2 TD om om om v9
