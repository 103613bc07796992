import Derived.Test.YtdpbiegfljmhmaaInsP
import Derived.Test.YtdpbiegfljmhmaaFracPure
import Derived.Test.YtdpbiegfljmhmaaLsP
import Derived.Test.YtdpbiegfljmhmaaFracT
import Derived.Test.YtdpbiegfljmhmaaDetI
set_option linter.unusedSimpArgs false
set_option linter.unusedVariables false
namespace Go.Proofs.Ytdpbiegfljmhmaa
open Go.cY
set_option maxRecDepth 100000
theorem Ut(a b:Int):rq a b=Rat.divInt a b:=by unfold rq;rw[Rat.divInt_eq_div]
theorem xq{a b:Int}(ha:a.natAbs<=1000000000000000000)(hb:b.natAbs<=1000000000000000000)(h0:b≠0):fits (rq a b):=by
 unfold fits;rw[Ut,Rat.num_divInt,Rat.den_divInt,if_neg h0];have h1:(b.sign*a / (Int.gcd b a:Int)).natAbs<=a.natAbs:=by
  refine Nat.le_trans (Int.natAbs_ediv_le_natAbs _ _) ?_;rw[Int.natAbs_mul];have:b.sign.natAbs<=1:=by
   rcases Int.lt_trichotomy b 0 with q|q|q
   ·rw[Int.sign_eq_neg_one_of_neg q];decide
   ·omega
   ·rw[Int.sign_eq_one_of_pos q];decide
  calc b.sign.natAbs*a.natAbs<=1*a.natAbs:=Nat.mul_le_mul_right _ this
   _=a.natAbs:=Nat.one_mul _
 have h2:b.natAbs / Int.gcd b a<=b.natAbs:=Nat.div_le_self _ _;omega
theorem qV{b:Int}(h:b≠0):(b:Rat)≠0:=fun q=>h (Rat.intCast_eq_zero_iff.1 q)
theorem vr{a b d:Int}(hd:d≠0):rq a d+rq b d=rq (a+b) d:=by
 have:=qV hd;unfold rq;rw[Rat.intCast_add];grind
theorem Ob{a b d:Int}(hd:d≠0):rq a d-rq b d=rq (a-b) d:=by
 have:=qV hd;unfold rq;rw[Rat.intCast_sub];grind
theorem Oc(l a d:Int):(l:Rat)*rq a d=rq (l*a) d:=by
 unfold rq;rw[Rat.intCast_mul];grind
theorem oX{l d:Int}(hd:d≠0):(l:Rat)=rq (l*d) d:=by
 have:=qV hd;unfold rq;rw[Rat.intCast_mul];grind
theorem CQ{a d c:Int}(hc:c≠0):rq (a*c) (d*c)=rq a d:=by
 have:=qV hc;unfold rq;rw[Rat.intCast_mul,Rat.intCast_mul];by_cases h:(d:Rat)=0
 ·rw[h];simp[Rat.div_def,Rat.inv_zero]
 ·grind
theorem Od{a b d e:Int}(hd:d≠0)(he:e≠0):rq a d=rq b e↔a*e=b*d:=by
 have h1:=qV hd;have h2:=qV he;rw[<-Rat.intCast_inj (a:=a*e),Rat.intCast_mul,Rat.intCast_mul];unfold rq;constructor<;>intro h<;>grind
theorem Oe{a b d:Int}(hd:d≠0):rq a d=rq b d↔a=b:=by
 rw[Od hd hd];exact⟨fun h=>Int.eq_of_mul_eq_mul_right hd h,fun h=>by rw[h]⟩
theorem QW{n d z D:Int}(h:jC n d (rq z D))(hD:D≠0):n*D=z*d:=by
 have h1:=h.val;have hd:=h.den;exact(Od (a:=n) (b:=z) om hD).1 h1.symm
theorem CS{n d z D:Int}(h:jC n d (rq z D))(hD:0<D):n / d=z / D:=by
 have hd:=h.den;have hc:=QW h om;rw[<-Int.mul_ediv_mul_of_pos_left n d hD,hc,Int.mul_comm d D,Int.mul_ediv_mul_of_pos_left z D om]
theorem KE(g:List (List Int))(m n r:Nat):AK g m n (r+1)=AK g m n r++[((Ext.Dv g m n (r+1) / Ext.Dv g m n r:Nat):Int)]:=iM _ _
theorem nu.pos{g:List (List Int)}{m n r:Nat}(h:nu g m n r){k:Nat}(hk:k<=r):Ext.Dv g m n k≠0:=by
 cases k with
 |zero=>rw[Ext.ID];decide
 |succ k=>exact h.nz k om
structure sC(B:List Fc)(i:Nat)(W:Int):Prop where
 pos:0<W
 le:W<=((60 ^ i:Nat):Int)
 dvd:∀j:Nat,j<i->(gt B (j:Int)).d∣W
theorem sC.start(B:List Fc):sC B 0 1:=⟨by decide,by decide,fun j hj=>om⟩
theorem sC.step{B:List Fc}{i:Nat}{W d:Int}(w:sC B i W)(ed:d=(gt B (i:Int)).d)(d1:1<=d)(d60:d<=60):sC B (i+1) (W*(d / (Int.gcd W d:Int))):=by
 have hp:=w.pos;have g0:0<Int.gcd W d:=Int.gcd_pos_of_ne_zero_left d om;have gd:(Int.gcd W d:Int)∣d:=Int.gcd_dvd_right W d;have gw:(Int.gcd W d:Int)∣W:=Int.gcd_dvd_left W d;obtain⟨c,hc⟩:=gd;obtain⟨v,hv⟩:=gw;obtain⟨G,eG⟩:∃s:Int,s=(Int.gcd W d:Int):=⟨_,rfl⟩;rw[<-eG]at hc hv ⊢;have G0:0<G:=om
 have eq:d / G=c:=by rw[hc];exact Int.mul_ediv_cancel_left c om
 rw[eq];have c0:0<c:=by
  by_cases q:0<c
  ·exact q
  ·have:=Int.mul_le_mul_of_nonneg_left (show c<=0 by omega) (Int.le_of_lt G0)
   rw[Int.mul_zero]at this;omega
 have cd:c<=d:=by
  rw[hc];have:=Int.mul_le_mul_of_nonneg_right (show 1<=G by omega) (Int.le_of_lt c0);rw[Int.one_mul]at this;exact this
 refine⟨Int.mul_pos hp c0,?_,fun j hj=>?_⟩
 ·have h1:W*c<=((60 ^ i:Nat):Int)*60:=Int.mul_le_mul w.le om (Int.le_of_lt c0) (Int.natCast_nonneg _)
  rw[Nat.pow_succ];omega
 ·by_cases e:j=i
  ·rw[e,<-ed]
   exact⟨v,by rw[hc,hv,Int.mul_assoc,Int.mul_assoc,Int.mul_comm v c]⟩
  ·exact Int.dvd_mul_of_dvd_left (w.dvd j om)
def AL(B:List Fc)(W:Int)(k:Nat):List Int:=iK (fun i=>(gt B (i:Int)).n*(W / (gt B (i:Int)).d)) k
theorem QX{B:List Fc}{W:Int}{k i:Nat}(h:i<k):gt (AL B W k) (i:Int)=(gt B (i:Int)).n*(W / (gt B (i:Int)).d):=dC _ h
theorem sC.part{B:List Fc}{k:Nat}{W:Int}(w:sC B k W)(ht:∀i:Int,0<=i->i<k->cI (gt B i)/\(gt B i).d<=60){i:Nat}(hi:i<k):jC (gt B (i:Int)).n (gt B (i:Int)).d (rq ((gt B (i:Int)).n*(W / (gt B (i:Int)).d)) W)/\0<=(gt B (i:Int)).n*(W / (gt B (i:Int)).d)/\(gt B (i:Int)).n*(W / (gt B (i:Int)).d)<W/\(gt B (i:Int)).n*(W / (gt B (i:Int)).d)<=W:=by
 obtain⟨⟨ok,n0,n1⟩,_⟩:=ht i om om;obtain⟨c,hc⟩:=w.dvd i hi;obtain⟨f,ef⟩:∃f,f=gt B (i:Int):=⟨_,rfl⟩;rw[<-ef]at ok n0 n1 hc ⊢;have f1:=ok.is.den;have wp:=w.pos;have ec:W / f.d=c:=by rw[hc];exact Int.mul_ediv_cancel_left c om
 rw[ec];have c0:0<c:=by
  by_cases q:0<c
  ·exact q
  ·have:=Int.mul_le_mul_of_nonneg_left (show c<=0 by omega) (show 0<=f.d by omega)
   rw[Int.mul_zero]at this;omega
 have h1:f.n*c<f.d*c:=Int.mul_lt_mul_of_pos_right n1 c0;refine⟨?_,Int.mul_nonneg n0 om,om,om⟩;have:=ok.is;rw[hc,CQ om];exact this
namespace Ext
structure QY(A:Nat->Nat->Int)(m n r:Nat)(p:Nat->Nat):Prop where
 rm:r<=m
 lt:∀i,i<r->p i<n
 inc:∀i j,i<j->j<r->p i<p j
 zero:∀i j,i<r->j<p i->A i j=0
 ne:∀i,i<r->A i (p i)≠0
 low:∀i j,r<=i->i<m->j<n->A i j=0
theorem uA{k:Nat}{r:Nat->Nat}(h:∀i,i+1<k->r i<r (i+1)):∀i,i<k->i<=r i
 |0,_=>Nat.zero_le _
 |i+1,hi=>by have:=uA h i om;have:=h i hi;omega
theorem I9{s:Nat}(M:Nat->Nat->Int){a:Nat}(ha:a<s)(h:∀j,j<s->M a j=0):dt s M=0:=by
 have:=G6 M ha (fun _=>0) (fun _=>0) 0 0;simp only[Int.zero_mul,Int.add_zero]at this;rw[fK (N:=M) (fun x y hx hy=>by
  by_cases c:x=a
  ·rw[if_pos c,c,h y hy]
  ·rw[if_neg c])]at this
 exact this
theorem QY.over{A:Nat->Nat->Int}{m n r:Nat}{p:Nat->Nat}(e:QY A m n r p){k:Nat}(hk:k<=4)(h:r<k):me A m n k 0:=by
 refine me.of hk (fun r' c h1 h2 hr hc=>?_);have:=uA h1 (k-1) om;rw[I9 _ (a:=k-1) om (fun j hj=>e.low (r' (k-1)) (c j) om (hr (k-1) om) (hc j hj))];exact Int.dvd_refl 0
def nS(f:Nat->Int):Nat->Int
 |0=>1
 |n+1=>nS f n*f n
theorem Uu{s:Nat}(hs:s<=4)(M:Nat->Nat->Int)(h:∀i j,i<s->j<i->M i j=0):dt s M=nS (fun i=>M i i) s:=by
 have e:s=0\/s=1\/s=2\/s=3\/s=4:=om
 rcases e with rfl|rfl|rfl|rfl|rfl
 ·rfl
 ·simp[dt,nS]
 ·have a:=h 1 0 om om
  simp[dt,nS,d2,a]
 ·have a:=h 1 0 om om
  have b:=h 2 0 om om;have c:=h 2 1 om om;simp[dt,nS,d3,d2,a,b,c];grind
 ·have a:=h 1 0 om om
  have b:=h 2 0 om om;have c:=h 2 1 om om;have d:=h 3 0 om om;have e:=h 3 1 om om;have f:=h 3 2 om om;simp[dt,nS,d4,d3,d2,a,b,c,d,e,f];grind
theorem Fi{f:Nat->Int}:∀n,(∀i,i<n->f i≠0)->nS f n≠0
 |0,_=>by show(1:Int)≠0;decide
 |n+1,h=>Int.mul_ne_zero (Fi n (fun i hi=>h i om)) (h n om)
theorem QY.minor{A:Nat->Nat->Int}{m n r:Nat}{p:Nat->Nat}(e:QY A m n r p){k:Nat}(hk:k<=4)(h:k<=r):dt k (fun i j=>A i (p j))=nS (fun i=>A i (p i)) k:=
 Uu hk _ (fun i j hi hj=>e.zero i _ om (e.inc j i hj om))
theorem QY.under{A:Nat->Nat->Int}{m n r:Nat}{p:Nat->Nat}(e:QY A m n r p){k:Nat}(hk:k<=4)(h:k<=r):¬me A m n k 0:=fun q=>by
 have h1:=q (fun i=>i) p (fun i hi=>by have:=e.rm;omega) (fun j hj=>e.lt j om);rw[e.minor hk h]at h1;exact Fi k (fun i hi=>e.ne i om) (Int.zero_dvd.1 h1)
theorem QY.full{A:Nat->Nat->Int}{m n:Nat}{p:Nat->Nat}(e:QY A m n n p)(hn:n<=4)(d:Nat):me A m n n (d:Int)↔d∣(nS (fun i=>A i (p i)) n).natAbs:=by
 constructor
 ·intro q
  have h1:=q (fun i=>i) p (fun i hi=>by have:=e.rm;omega) (fun j hj=>e.lt j hj);rw[e.minor hn (Nat.le_refl _)]at h1;exact Int.ofNat_dvd_left.1 h1
 ·intro q
  have CT:∀c:Nat->Nat,(∀j,j+1<n->c j<c (j+1))->(∀j,j<n->c j<n)->∀j,j<n->c j=j:=fun c h2 hc j hj=>by
   have h1:=uA h2 j hj;have up:∀t,j+t<n->c j+t<=c (j+t):=by
    intro t
    induction t with
    |zero=>intro _;exact Nat.le_refl _
    |succ t ih=>intro ht;have:=ih om;have:=h2 (j+t) om;rw[show j+(t+1)=j+t+1 by omega];omega
   have h3:=up (n-1-j) om;have h4:=hc (j+(n-1-j)) om;omega
  have pid:=CT p (fun j hj=>e.inc j (j+1) om hj) (fun j hj=>e.lt j hj);refine me.of hn (fun r c h1 h2 hr hc=>?_);have cid:=CT c h2 hc;by_cases lo:∀i,i<n->r i<n
  ·have rid:=CT r h1 lo
   rw[fK (N:=fun i j=>A i (p j)) (fun i j hi hj=>by rw[rid i hi,cid j hj,pid j hj]),e.minor hn (Nat.le_refl _)];exact Int.ofNat_dvd_left.2 q
  ·have:∃i,i<n/\n<=r i:=Classical.byContradiction fun w=>lo fun i hi=>Classical.byContradiction fun v=>w ⟨i,hi,om⟩
   obtain⟨a,ha,YV⟩:=this;rw[I9 _ ha (fun j hj=>e.low (r a) (c j) YV (hr a ha) (hc j hj))];exact Int.dvd_zero _
end Ext
theorem bM.ech{g:List (List Int)}{m n r s:Nat}{A:Nat->Ext.aS}(a:bM g m n r s A):Ext.QY A m n r (fun i=>Ext.aj (n+m) (A i)):=by
 have hs:=a.sum;refine⟨om,a.lo,fun i j hi hj=>a.Qp.inc i j hi om,fun i j hi hj=>Ext.bD hj,fun i hi=>?_,fun i j h1 h2 h3=>Ext.bD (w:=n+m) (by have:=a.hi i h1 h2;omega)⟩;have:=a.Qp.pos i om;omega
theorem bM.minors{g:List (List Int)}{m n r s:Nat}{A:Nat->Ext.aS}(a:bM g m n r s A){k:Nat}(d:Int):Ext.me (fun i j=>Ext.el g i j) m n k d↔Ext.me A m n k d:=by
 have ej:∀(i j:Nat),j<n->gU g n i j=Ext.el g i j:=fun i j hj=>by unfold gU;rw[if_pos hj];rfl
 constructor
 ·intro h
  refine h.rows (fun i hi=>?_);obtain⟨y,hy⟩:=a.Df.le i hi;exact⟨y,fun j hj=>by
   rw[hy j om];exact Ext.aN m (fun t ht=>by rw[ej t j hj])⟩
 ·intro h
  refine h.rows (fun i hi=>?_);obtain⟨y,hy⟩:=a.Df.ge i hi;exact⟨y,fun j hj=>by rw[<-ej i j hj];exact hy j om⟩
theorem bM.aaV{g:List (List Int)}{m n r s:Nat}{A:Nat->Ext.aS}(hM:nR g m n)(a:bM g m n r s A):nu g m n r:=by
 have e:=a.ech;have hs:=a.sum;have m4:=hM.m4;have rn:r<=n:=by
  cases r with
  |zero=>exact Nat.zero_le _
  |succ r=>
   have h1:r<=Ext.aj (n+m) (A r):=Ext.uA (k:=r+1) (r:=fun i=>Ext.aj (n+m) (A i)) (fun i hi=>e.inc i (i+1) om hi) r om;have h2:Ext.aj (n+m) (A r)<n:=e.lt r om;omega
 have z:∀k,k<=4->(Ext.Dv g m n k=0↔Ext.me A m n k 0):=fun k hk=>by
  rw[<-a.minors (k:=k) 0];have:=Ext.nh (g:=g) (m:=m) (n:=n) hk 0;rw[Nat.zero_dvd]at this;exact this
 refine⟨om,rn,fun k hk=>?_,?_⟩
 ·rw[Ne,z (k+1) om]
  exact e.under om om
 ·by_cases c:r=m
  ·exact .inl c
  ·right;right
   rw[z (r+1) om];exact e.over om om
theorem lI(f:Nat->Nat->Int)(m:Nat):∀n,Ext.aV (fun i=>Ext.aV (fun j=>f i j) m) n=Ext.aV (fun j=>Ext.aV (fun i=>f i j) n) m
 |0=>by
  show(0:Int)=Ext.aV (fun j=>0) m;rw[Ext.rB]
 |n+1=>by
  show Ext.aV (fun i=>Ext.aV (fun j=>f i j) m) n+Ext.aV (fun j=>f n j) m=Ext.aV (fun j=>Ext.aV (fun i=>f i j) n+f n j) m;rw[lI f m n,Ext.qq]
theorem iv(c:Int)(f:Nat->Int)(n:Nat):Ext.aV (fun k=>f k*c) n=Ext.aV f n*c:=by
 rw[Int.mul_comm,<-Ext.jv];exact Ext.aN n (fun k _=>Int.mul_comm _ _)
theorem Hu{g:List (List Int)}{n i j:Nat}(h:j<n):gU g n i j=Ext.el g i j:=by unfold gU;rw[if_pos h];rfl
theorem Hv{g:List (List Int)}{n i j:Nat}:gU g n i (n+j)=if j=i then 1 else 0:=by
 unfold gU;rw[if_neg om];by_cases c:j=i
 ·rw[if_pos c,if_pos om]
 ·rw[if_neg c,if_neg om]
theorem BB{g:List (List Int)}{n m:Nat}{y:Nat->Int}{j:Nat}(hj:j<m):Ext.aV (fun i=>y i*gU g n i (n+j)) m=y j:=by
 rw[Ext.ic m hj (fun k _ ne=>by rw[Hv,if_neg om,Int.mul_zero])];simp only[Hv,if_true,Int.mul_one]
theorem bM.tail{g:List (List Int)}{m n r s:Nat}{A:Nat->Ext.aS}(a:bM g m n r s A){i:Nat}(hi:i<m){j:Nat}(hj:j<n):A i j=Ext.aV (fun t=>A i (n+t)*Ext.el g t j) m:=by
 obtain⟨y,hy⟩:=a.Df.le i hi;have ht:∀t,t<m->A i (n+t)=y t:=fun t ht=>by rw[hy (n+t) om,BB ht]
 rw[hy j om];exact Ext.aN m (fun t h=>by rw[ht t h,Hu hj])
def Fj(g:List (List Int))(m n:Nat)(u:Nat->Int):Prop:=∀j,j<n->Ext.aV (fun i=>u i*Ext.el g i j) m=0
theorem bM.rel{g:List (List Int)}{m n r s:Nat}{A:Nat->Ext.aS}(a:bM g m n r s A){i:Nat}(hi:i<s):Fj g m n (fun j=>A (r+i) (n+j)):=fun j hj=>by
 have hs:=a.sum;rw[<-a.tail (i:=r+i) om hj];exact Ext.bD (w:=n+m) (by have:=a.hi (r+i) om om;omega)
theorem bM.aaW{g:List (List Int)}{m n r s:Nat}{A:Nat->Ext.aS}(a:bM g m n r s A){u:Nat->Int}(hu:Fj g m n u):∃y:Nat->Int,∀j,j<m->u j=Ext.aV (fun i=>y i*A (r+i) (n+j)) s:=by
 have hs:=a.sum;have hv:Ext.Sp (n+m) m A (fun c=>Ext.aV (fun i=>u i*gU g n i c) m):=Ext.Sp.le a.Df.ge ⟨u,fun j hj=>rfl⟩;have:=Ext.Sp.rest hs ⟨fun i hi=>a.Qp.lt i om,fun i hi=>a.Qp.pos i om,fun i j hi hj=>a.Qp.inc i j hi om⟩ a.lo (fun i c h1 h2 h3=>Ext.bD (w:=n+m) (by have:=a.hi i h1 h2;omega)) hv (fun c hc=>by
  have:=hu c hc;rw[<-this];exact Ext.aN m (fun k _=>by rw[Hu hc]))
 obtain⟨y,hy⟩:=this;refine⟨y,fun j hj=>?_⟩;rw[<-hy j hj];exact(BB hj).symm
def nT(B:List Fc)(W:Int)(i:Nat):Int:=(gt B (i:Int)).n*(W / (gt B (i:Int)).d)
def ml(g:List (List Int))(B:List Fc)(m n:Nat):Prop:=∀W,sC B m W->∀u,Fj g m n u->Ext.aV (fun i=>u i*nT B W i) m % W=0
theorem bM.holds{g:List (List Int)}{m n r s:Nat}{A:Nat->Ext.aS}(a:bM g m n r s A){B:List Fc}(ht:∀i:Int,0<=i->i<m->cI (gt B i)/\(gt B i).d<=60){W:Int}(w:sC B m W):(∀i,i<s->Ext.aV (fun j=>A (r+i) (n+j)*nT B W j) m % W=0)↔ml g B m n:=by
 constructor
 ·intro h W' w' u hu
  obtain⟨y,hy⟩:=a.aaW hu;have wp:=w.pos;have wp':=w'.pos;have h1:W∣Ext.aV (fun i=>u i*nT B W i) m:=by
   have e:Ext.aV (fun i=>u i*nT B W i) m=Ext.aV (fun i=>y i*Ext.aV (fun j=>A (r+i) (n+j)*nT B W j) m) s:=by
    rw[Ext.aN m (g:=fun j=>Ext.aV (fun i=>y i*(A (r+i) (n+j)*nT B W j)) s) (fun j hj=>by
     rw[hy j hj,<-iv];exact Ext.aN s (fun i _=>by rw[Int.mul_assoc])),<-lI]
    exact Ext.aN s (fun i _=>by rw[Ext.jv])
   rw[e];exact Ext.rH s (fun i hi=>Int.dvd_mul_of_dvd_right (Int.dvd_of_emod_eq_zero (h i hi)))
  have e2:Ext.aV (fun i=>u i*nT B W' i) m*W=Ext.aV (fun i=>u i*nT B W i) m*W':=by
   rw[<-iv,<-iv];refine Ext.aN m (fun i hi=>?_);have q1:=(w.part ht hi).1;have q2:=(w'.part ht hi).1;have q3:=q1.uniq q2;have q4:=(Od (show W≠0 by omega) (show W'≠0 by omega)).1 q3;show u i*nT B W' i*W=u i*nT B W i*W';have q5:nT B W i*W'=nT B W' i*W:=q4;rw[Int.mul_assoc,<-q5,Int.mul_assoc]
  obtain⟨c,hc⟩:=h1;rw[hc]at e2;have:Ext.aV (fun i=>u i*nT B W' i) m=W'*c:=by
   have e3:W*(Ext.aV (fun i=>u i*nT B W' i) m)=W*(W'*c):=by
    rw[Int.mul_comm,e2,Int.mul_assoc,Int.mul_comm c W']
   exact Int.eq_of_mul_eq_mul_left om e3
  rw[this];exact Int.mul_emod_right W' c
 ·intro h i hi
  exact h W w _ (a.rel hi)
theorem bM.small{g:List (List Int)}{m n r s:Nat}{A:Nat->Ext.aS}(hM:nR g m n)(a:bM g m n r s A){i:Nat}(hi:i<m)(j:Nat):(A i j).natAbs<=629856:=
 a.Qp.small a.Df (fun i hi j=>by
  unfold gU;split
  ·exact hM.nine _ _
  ·split<;>decide) hM.m4 hi j
theorem sC.gi{B:List Fc}{k:Nat}{W:Int}(w:sC B k W)(k4:k<=4):W<=12960000:=by
 have h:=w.le;have:(60:Nat) ^ k<=60 ^ 4:=Nat.pow_le_pow_right om k4;omega
theorem CU{B:List Fc}{W:Int}{k i:Nat}(h:i<k):gt (AL B W k) (i:Int)=nT B W i:=QX h
theorem Ja{a p W:Int}(ha:a.natAbs<=629856)(p0:0<=p)(p1:p<W)(hW:W<=12960000):(a*p).natAbs<=8162933760000:=by
 have:=Ext.jX ha (show p.natAbs<=12960000 by omega);omega
theorem sC.ex{B:List Fc}{k:Nat}(ht:∀i:Int,0<=i->i<k->cI (gt B i)/\(gt B i).d<=60):∃W,sC B k W:=by
 have:∀i,i<=k->∃W,sC B i W:=by
  intro i
  induction i with
  |zero=>intro _;exact⟨1,sC.start B⟩
  |succ i ih=>
   intro hi;obtain⟨W,w⟩:=ih om;obtain⟨⟨ok,_,_⟩,d60⟩:=ht i om om;exact⟨_,w.step rfl ok.is.den d60⟩
 exact this k (Nat.le_refl k)
theorem bM.xu{g:List (List Int)}{m n s:Nat}{A:Nat->Ext.aS}(a:bM g m n n s A){i:Nat}(hi:i<n):Ext.aj (n+m) (A i)=i:=by
 have e:=a.ech;have h1:i<=Ext.aj (n+m) (A i):=Ext.uA (k:=n) (r:=fun i=>Ext.aj (n+m) (A i)) (fun i hi=>e.inc i (i+1) om hi) i hi;have up:∀t,i+t<n->Ext.aj (n+m) (A i)+t<=Ext.aj (n+m) (A (i+t)):=by
  intro t
  induction t with
  |zero=>intro _;exact Nat.le_refl _
  |succ t ih=>
   intro ht;have h2:=ih om;have h3:Ext.aj (n+m) (A (i+t))<Ext.aj (n+m) (A (i+(t+1))):=e.inc (i+t) (i+(t+1)) om om;omega
 have h3:=up (n-1-i) om;have h4:Ext.aj (n+m) (A (i+(n-1-i)))<n:=e.lt (i+(n-1-i)) om;omega
def jW(A:Nat->Ext.aS)(B:List Fc)(W:Int)(m n k:Nat):Int:=Ext.aV (fun t=>A k (n+t)*nT B W t) m
def gG(A:Nat->Ext.aS)(B:List Fc)(W:Int)(m n:Nat)(k:Nat):Int:=jW A B W m n k % W*Ext.Mk A n
theorem qW{A:Nat->Nat->Int}:∀n,(∀i,i<n->0<A i i)->0<Ext.Mk A n
 |0,_=>by show(0:Int)<1;decide
 |n+1,h=>Int.mul_pos (qW n (fun i hi=>h i om)) (h n om)
theorem bM.diag{g:List (List Int)}{m n s:Nat}{A:Nat->Ext.aS}(a:bM g m n n s A){i:Nat}(hi:i<n):0<A i i:=by
 have:=a.Qp.pos i (by have:=a.sum;omega);rw[a.xu hi]at this;exact this
theorem bM.KF{g:List (List Int)}{m n s:Nat}{A:Nat->Ext.aS}(a:bM g m n n s A){B:List Fc}{W:Int}(hW:0<W):Ext.AE A (gG A B W m n) (W*Ext.Mk A n) n:=by
 have dp:∀i,i<n->0<A i i:=fun i hi=>a.diag hi
 refine⟨fun i j hi hj=>Ext.bD (w:=n+m) (by rw[a.xu hi];exact hj),dp,Int.mul_pos hW (qW n dp),Int.dvd_mul_left ..,fun k hk=>Int.dvd_mul_left ..⟩
structure Of(g:List (List Int))(P:Nat->Int)(m n:Nat)(many size:Int)(x:List Int):Prop where
 len:x.length=n
 yO:∀j:Nat,j<n->0<=gt x (j:Int)/\gt x (j:Int)<size
 eqs:∀i,i<m->size∣P i*many-Ext.aV (fun j=>Ext.el g i j*gt x (j:Int)) n
theorem Fk(f g:Nat->Int)(n:Nat):Ext.aV (fun k=>f k-g k) n=Ext.aV f n-Ext.aV g n:=by
 have h:=Ext.qq (fun k=>f k-g k) g n;rw[Ext.aN n (g:=f) (fun k _=>om)]at h;omega
theorem bM.aaX{g:List (List Int)}{m n s:Nat}{A:Nat->Ext.aS}(a:bM g m n n s A){B:List Fc}{W:Int}(w:sC B m W)(hR:ml g B m n)(x:List Int):Ext.Cy A (gG A B W m n) (W*Ext.Mk A n) n 0 x↔Of g (nT B W) m n (Ext.Mk A n) (W*Ext.Mk A n) x:=by
 have hs:=a.sum;obtain⟨many,eM⟩:∃z,z=Ext.Mk A n:=⟨_,rfl⟩;have row:∀k,k<n->((gG A B W m n k-Ext.iE A n k x) % (W*many)=0↔W*many∣jW A B W m n k*many-Ext.iE A n k x):=fun k hk=>by
  have e:jW A B W m n k*many-Ext.iE A n k x=(gG A B W m n k-Ext.iE A n k x)+W*many*(jW A B W m n k / W):=by
   unfold gG;rw[<-eM];have h1:=Int.emod_add_mul_ediv (jW A B W m n k) W;have h2:jW A B W m n k*many=(jW A B W m n k % W+W*(jW A B W m n k / W))*many:=by rw[h1]
   rw[h2,Int.add_mul,Int.mul_assoc W,Int.mul_comm (jW A B W m n k / W),<-Int.mul_assoc W];omega
  rw[e];constructor
  ·intro h
   exact Int.dvd_add (Int.dvd_of_emod_eq_zero h) (Int.dvd_mul_right _ _)
  ·intro h
   have:=Int.dvd_sub h (Int.dvd_mul_right (W*many) (jW A B W m n k / W));rw[Int.add_sub_cancel]at this;exact Int.emod_eq_zero_of_dvd this
 rw[<-eM];constructor
 ·intro sx
  refine⟨sx.len,fun j hj=>sx.yO j (Nat.zero_le j) hj,fun i hi=>?_⟩;obtain⟨c,hc⟩:=a.Df.ge i hi;have hel:∀j,j<n->Ext.el g i j=Ext.aV (fun k=>c k*A k j) m:=fun j hj=>by rw[<-Hu hj];exact hc j om
  have hdl:∀t,t<m->(if t=i then(1:Int)else 0)=Ext.aV (fun k=>c k*A k (n+t)) m:=fun t ht=>by rw[<-Hv (g:=g) (n:=n)];exact hc (n+t) om
  have e1:nT B W i=Ext.aV (fun k=>c k*jW A B W m n k) m:=by
   have h1:nT B W i=Ext.aV (fun t=>(if t=i then(1:Int)else 0)*nT B W t) m:=by
    rw[Ext.ic m hi (fun k _ ne=>by rw[if_neg ne,Int.zero_mul])];simp
   rw[h1,Ext.aN m (g:=fun t=>Ext.aV (fun k=>c k*(A k (n+t)*nT B W t)) m) (fun t ht=>by
    rw[hdl t ht,<-iv];exact Ext.aN m (fun k _=>by rw[Int.mul_assoc])),<-lI]
   exact Ext.aN m (fun k _=>by unfold jW;rw[Ext.jv])
  have e2:Ext.aV (fun j=>Ext.el g i j*gt x (j:Int)) n=Ext.aV (fun k=>c k*Ext.iE A n k x) m:=by
   rw[Ext.aN n (g:=fun j=>Ext.aV (fun k=>c k*(A k j*gt x (j:Int))) m) (fun j hj=>by
    rw[hel j hj,<-iv];exact Ext.aN m (fun k _=>by rw[Int.mul_assoc])),<-lI]
   exact Ext.aN m (fun k _=>by unfold Ext.iE;rw[Ext.jv])
  have e3:nT B W i*many-Ext.aV (fun j=>Ext.el g i j*gt x (j:Int)) n=Ext.aV (fun k=>c k*(jW A B W m n k*many-Ext.iE A n k x)) m:=by
   rw[e1,e2,<-iv,<-Fk];exact Ext.aN m (fun k _=>by rw[Int.mul_sub,Int.mul_assoc])
  rw[e3];refine Ext.rH m (fun k hk=>Int.dvd_mul_of_dvd_right ?_);by_cases ck:k<n
  ·exact(row k ck).1 (sx.eqs k (Nat.zero_le k) ck)
  ·have z1:Ext.iE A n k x=0:=by
    unfold Ext.iE;rw[Ext.aN n (g:=fun _=>0) (fun j hj=>by
     rw[Ext.bD (w:=n+m) (v:=A k) (j:=j) (by have:=a.hi k om hk;omega),Int.zero_mul]),Ext.rB]
   have z2:W∣jW A B W m n k:=by
    have:=hR W w _ (a.rel (i:=k-n) om);rw[show n+(k-n)=k by omega]at this;exact Int.dvd_of_emod_eq_zero this
   rw[z1,Int.sub_zero];exact Int.mul_dvd_mul z2 (Int.dvd_refl many)
 ·intro sx
  refine⟨sx.len,fun j hj=>om,fun j _ hj=>sx.yO j hj,fun k _ hk=>?_⟩;refine(row k hk).2 ?_;have e3:jW A B W m n k*many-Ext.iE A n k x=Ext.aV (fun t=>A k (n+t)*(nT B W t*many-Ext.aV (fun j=>Ext.el g t j*gt x (j:Int)) n)) m:=by
   have e1:Ext.iE A n k x=Ext.aV (fun t=>A k (n+t)*Ext.aV (fun j=>Ext.el g t j*gt x (j:Int)) n) m:=by
    unfold Ext.iE;rw[Ext.aN n (g:=fun j=>Ext.aV (fun t=>A k (n+t)*(Ext.el g t j*gt x (j:Int))) m) (fun j hj=>by
     rw[a.tail (i:=k) om hj,<-iv];exact Ext.aN m (fun t _=>by rw[Int.mul_assoc])),<-lI]
    exact Ext.aN m (fun t _=>by rw[Ext.jv])
   unfold jW;rw[e1,<-iv,<-Fk];exact Ext.aN m (fun t _=>by rw[Int.mul_sub,Int.mul_assoc])
  rw[e3];exact Ext.rH m (fun t ht=>Int.dvd_mul_of_dvd_right (sx.eqs t ht))
def vq(x:Fc):Rat:=rq x.n x.d
def dm(f:Nat->Rat):Nat->Rat
 |0=>0
 |n+1=>dm f n+f n
theorem da{f g:Nat->Rat}:∀(n:Nat),(∀k,k<n->f k=g k)->dm f n=dm g n
 |0,_=>rfl
 |n+1,h=>by show dm f n+f n=dm g n+g n;rw[da n (fun k hk=>h k om),h n om]
theorem xw(c y:Nat->Int){D:Int}(hD:D≠0):∀n,dm (fun j=>(c j:Rat)*rq (y j) D) n=rq (Ext.aV (fun j=>c j*y j) n) D
 |0=>by
  show(0:Rat)=rq 0 D;have:=oX (l:=0) hD;rw[Int.zero_mul]at this;rw[<-this];rfl
 |n+1=>by
  show dm (fun j=>(c j:Rat)*rq (y j) D) n+(c n:Rat)*rq (y n) D=rq (Ext.aV (fun j=>c j*y j) n+c n*y n) D;rw[xw c y hD n,Oc,vr hD]
def fr(a b:Int):Fc:=⟨(rq a b).num,(rq a b).den⟩
theorem Og{a b:Int}(ha:a.natAbs<=1000000000000000000)(hb:b.natAbs<=1000000000000000000)(h0:b≠0):jC (fr a b).n (fr a b).d (rq a b):=⟨rfl,rfl,xq ha hb h0⟩
theorem QZ{a b:Int}(h0:0<=a)(h1:a<b)(hb:b<=1000000000000000000):cI (fr a b):=by
 have f:=Og (a:=a) (b:=b) om om om;have fl:=CS f om;rw[Int.ediv_eq_zero_of_lt h0 h1]at fl;have hd:=f.den;refine⟨f.ok,?_,?_⟩
 ·have:=Int.emod_nonneg (fr a b).n (show(fr a b).d≠0 by omega)
  have e:=Int.emod_add_mul_ediv (fr a b).n (fr a b).d;rw[fl,Int.mul_zero]at e;omega
 ·have:=Int.emod_lt_of_pos (fr a b).n (show 0<(fr a b).d by omega)
  have e:=Int.emod_add_mul_ediv (fr a b).n (fr a b).d;rw[fl,Int.mul_zero]at e;omega
theorem Oh{a b:Int}(ha:a.natAbs<=1000000000000000000)(hb:b.natAbs<=1000000000000000000)(h0:b≠0):vq (fr a b)=rq a b:=(Og ha hb h0).rq
theorem cI.is{x:Fc}(h:cI x):jC x.n x.d (vq x):=h.1.is
theorem Uv{x y:Fc}(h1:x.n=y.n)(h2:x.d=y.d):x=y:=by cases x;cases y;simp_all
theorem KG{x:Fc}(hx:cI x){y D:Int}(hD:0<D)(e:vq x=rq y D):0<=y/\y<D/\x=fr y D:=by
 have a:=hx.is;rw[e]at a;have fl:=CS a hD;rw[Int.ediv_eq_zero_of_lt hx.2.1 hx.2.2]at fl;have e1:=Int.emod_add_mul_ediv y D;rw[<-fl,Int.mul_zero]at e1;have:=Int.emod_nonneg y (show D≠0 by omega);have:=Int.emod_lt_of_pos y hD;refine⟨om,om,Uv a.1 a.2.1⟩
structure Hw(g:List (List Int))(B:List Fc)(m n:Nat)(X:List Fc):Prop where
 len:X.length=n
 turn:∀j:Nat,j<n->cI (gt X (j:Int))
 eqs:∀i:Nat,i<m->∃z:Int,dm (fun j=>(Ext.el g i j:Rat)*vq (gt X (j:Int))) n=vq (gt B (i:Int))+(z:Rat)
theorem xz(f:Int->Fc)(x:List Int){j:Nat}(h:j<x.length):gt (x.map f) (j:Int)=f (gt x (j:Int)):=by
 unfold gt;rw[List.getD_eq_getElem?_getD,List.getD_eq_getElem?_getD,show((j:Int)).toNat=j from rfl,List.getElem?_map,List.getElem?_eq_getElem h];rfl
theorem KH{x y:List Fc}{n:Nat}(hx:x.length=n)(hy:y.length=n)(h:∀j:Nat,j<n->gt x (j:Int)=gt y (j:Int)):x=y:=by
 apply List.ext_getElem?;intro j;by_cases c:j<n
 ·have:=h j c
  unfold gt at this;rw[List.getD_eq_getElem?_getD,List.getD_eq_getElem?_getD,show((j:Int)).toNat=j from rfl,List.getElem?_eq_getElem om,List.getElem?_eq_getElem om]at this;rw[List.getElem?_eq_getElem om,List.getElem?_eq_getElem om];exact congrArg some this
 ·rw[List.getElem?_eq_none om,List.getElem?_eq_none om]
theorem BC{B:List Fc}{m:Nat}{W many:Int}(w:sC B m W)(hm:many≠0)(ht:∀i:Int,0<=i->i<m->cI (gt B i)/\(gt B i).d<=60){i:Nat}(hi:i<m):vq (gt B (i:Int))=rq (nT B W i*many) (W*many):=by
 have:=(w.part ht hi).1.rq;rw[CQ hm];exact this
theorem Of.aaY{g:List (List Int)}{B:List Fc}{m n:Nat}{W many:Int}(w:sC B m W)(ht:∀i:Int,0<=i->i<m->cI (gt B i)/\(gt B i).d<=60)(hm:0<many)(hs:W*many<=1000000000000000000){x:List Int}(s:Of g (nT B W) m n many (W*many) x):Hw g B m n (x.map (fun y=>fr y (W*many))):=by
 have sp:0<W*many:=Int.mul_pos w.pos hm;have hv:∀j:Nat,j<n->vq (gt (x.map (fun y=>fr y (W*many))) (j:Int))=rq (gt x (j:Int)) (W*many):=fun j hj=>by
  rw[xz _ x (by rw[s.len];exact hj)];obtain⟨r0,r1⟩:=s.yO j hj;exact Oh om om om
 refine⟨by rw[List.length_map];exact s.len,fun j hj=>?_,fun i hi=>?_⟩
 ·rw[xz _ x (by rw[s.len];exact hj)]
  obtain⟨r0,r1⟩:=s.yO j hj;exact QZ r0 r1 hs
 ·obtain⟨c,hc⟩:=s.eqs i hi
  refine⟨-c,?_⟩;rw[da n (g:=fun j=>(Ext.el g i j:Rat)*rq (gt x (j:Int)) (W*many)) (fun j hj=>by rw[hv j hj]),xw _ _ (show W*many≠0 by omega),BC w (show many≠0 by omega) ht hi,oX (l:=-c) (show W*many≠0 by omega),vr (show W*many≠0 by omega)]
  congr 1
  rw[Int.neg_mul,Int.mul_comm c];omega
def dA(D:Int)(q:Rat):Prop:=∃y:Int,q=rq y D
theorem dA.add{D:Int}{p q:Rat}(hD:D≠0)(a:dA D p)(b:dA D q):dA D (p+q):=by
 obtain⟨y,rfl⟩:=a;obtain⟨z,rfl⟩:=b;exact⟨y+z,vr hD⟩
theorem dA.sub{D:Int}{p q:Rat}(hD:D≠0)(a:dA D p)(b:dA D q):dA D (p-q):=by
 obtain⟨y,rfl⟩:=a;obtain⟨z,rfl⟩:=b;exact⟨y-z,Ob hD⟩
theorem dA.mul{D:Int}{q:Rat}(c:Int)(a:dA D q):dA D ((c:Rat)*q):=by
 obtain⟨y,rfl⟩:=a;exact⟨c*y,Oc c y D⟩
theorem dA.int{D:Int}(hD:D≠0)(c:Int):dA D (c:Rat):=⟨c*D,oX hD⟩
theorem dA.more{D c:Int}{q:Rat}(hc:c≠0)(a:dA D q):dA (D*c) q:=by
 obtain⟨y,rfl⟩:=a;exact⟨y*c,(CQ hc).symm⟩
theorem dA.sum{D:Int}(hD:D≠0){f:Nat->Rat}:∀n,(∀k,k<n->dA D (f k))->dA D (dm f n)
 |0,_=>⟨0,by
  have:=oX (l:=0) hD;rw[Int.zero_mul]at this;rw[<-this];rfl⟩
 |n+1,h=>(dA.sum hD n (fun k hk=>h k om)).add hD (h n om)
theorem dA.Uw{D c:Int}{q:Rat}(hD:D≠0)(hc:c≠0)(a:dA D ((c:Rat)*q)):dA (D*c) q:=by
 obtain⟨y,hy⟩:=a;refine⟨y,?_⟩;have h1:=qV hD;have h2:=qV hc;unfold rq at hy ⊢;rw[Rat.intCast_mul];grind
theorem uB(f g:Nat->Rat):∀n,dm (fun k=>f k+g k) n=dm f n+dm g n
 |0=>by show(0:Rat)=0+0;grind
 |n+1=>by
  show dm (fun k=>f k+g k) n+(f n+g n)=dm f n+f n+(dm g n+g n);rw[uB f g n];grind
theorem nU(c:Rat)(f:Nat->Rat):∀n,dm (fun k=>c*f k) n=c*dm f n
 |0=>by show(0:Rat)=c*0;grind
 |n+1=>by
  show dm (fun k=>c*f k) n+c*f n=c*(dm f n+f n);rw[nU c f n];grind
theorem rP(f:Nat->Nat->Rat)(m:Nat):∀n,dm (fun i=>dm (fun j=>f i j) m) n=dm (fun j=>dm (fun i=>f i j) n) m
 |0=>by
  have:∀m,dm (fun _=>(0:Rat)) m=0:=fun m=>by
   induction m with
   |zero=>rfl
   |succ m ih=>show dm (fun _=>(0:Rat)) m+0=0;rw[ih];grind
  exact(this m).symm
 |n+1=>by
  show dm (fun i=>dm (fun j=>f i j) m) n+dm (fun j=>f n j) m=dm (fun j=>dm (fun i=>f i j) n+f n j) m;rw[rP f m n,uB]
theorem Fl(c:Nat->Int)(q:Rat):∀n,dm (fun k=>(c k:Rat)*q) n=(Ext.aV c n:Rat)*q
 |0=>by show(0:Rat)=((0:Int):Rat)*q;rw[Rat.intCast_zero];grind
 |n+1=>by
  show dm (fun k=>(c k:Rat)*q) n+(c n:Rat)*q=((Ext.aV c n+c n:Int):Rat)*q;rw[Fl c q n,Rat.intCast_add];grind
theorem bM.over{g:List (List Int)}{m n s:Nat}{A:Nat->Ext.aS}(a:bM g m n n s A){B:List Fc}{W:Int}(w:sC B m W)(ht:∀i:Int,0<=i->i<m->cI (gt B i)/\(gt B i).d<=60){X:List Fc}(sx:Hw g B m n X){k:Nat}(hk:k<n):dA W (dm (fun j=>(A k j:Rat)*vq (gt X (j:Int))) n):=by
 have hs:=a.sum;have wp:=w.pos;have e:dm (fun j=>(A k j:Rat)*vq (gt X (j:Int))) n=dm (fun t=>(A k (n+t):Rat)*dm (fun j=>(Ext.el g t j:Rat)*vq (gt X (j:Int))) n) m:=by
  rw[da n (g:=fun j=>dm (fun t=>(A k (n+t):Rat)*((Ext.el g t j:Rat)*vq (gt X (j:Int)))) m) (fun j hj=>by
   rw[a.tail (i:=k) om hj,<-Fl];exact da m (fun t _=>by rw[Rat.intCast_mul];grind)),<-rP]
  exact da m (fun t _=>by rw[nU])
 rw[e];refine dA.sum om m (fun t YX=>dA.mul _ ?_);obtain⟨z,hz⟩:=sx.eqs t YX;rw[hz];exact dA.add om ⟨_,(w.part ht YX).1.rq⟩ (dA.int om z)
theorem xC{f:Nat->Rat}{k:Nat}:∀n,k<n->dm f n=f k+dm (fun j=>if j=k then 0 else f j) n
 |0,h=>om
 |n+1,h=>by
  show dm f n+f n=f k+(dm (fun j=>if j=k then 0 else f j) n+if n=k then 0 else f n);by_cases c:k=n
  ·subst c
   rw[if_pos rfl,da (f:=fun j=>if j=k then 0 else f j) (g:=f) k (fun j hj=>by rw[if_neg om])];grind
  ·rw[if_neg (show ¬n=k by omega),xC (k:=k) n om]
   grind
theorem bM.Sz{g:List (List Int)}{m n s:Nat}{A:Nat->Ext.aS}(a:bM g m n n s A){B:List Fc}{W:Int}(w:sC B m W)(ht:∀i:Int,0<=i->i<m->cI (gt B i)/\(gt B i).d<=60){X:List Fc}(sx:Hw g B m n X):∀d,d<=n->∃c:Int,c≠0/\c*Ext.Mk A (n-d)=Ext.Mk A n/\∀j:Nat,n-d<=j->j<n->dA (W*c) (vq (gt X (j:Int)))
 |0,_=>⟨1,by decide,by rw[Int.one_mul];rfl,fun j h1 h2=>om⟩
 |d+1,h=>by
  obtain⟨c,c0,c1,c2⟩:=bM.Sz a w ht sx d om;have wp:=w.pos;obtain⟨k,ek⟩:∃k,k=n-(d+1):=⟨_,rfl⟩;have e1:n-d=k+1:=om
  rw[<-ek];rw[e1]at c1 c2;have ap:=a.diag (i:=k) om;have D0:W*c≠0:=Int.mul_ne_zero om c0;refine⟨c*A k k,Int.mul_ne_zero c0 om,?_,fun j h1 h2=>?_⟩
  ·rw[<-c1]
   show c*A k k*Ext.Mk A k=c*(Ext.Mk A k*A k k);rw[Int.mul_assoc,Int.mul_comm (A k k)]
  ·rw[<-Int.mul_assoc]
   by_cases e:j=k
   ·subst e
    refine dA.Uw D0 om ?_;have h3:=a.over w ht sx (k:=j) h2;have h4:=(h3.more c0:dA (W*c) _);rw[xC (k:=j) n h2]at h4;have h5:dA (W*c) (dm (fun i=>if i=j then 0 else(A j i:Rat)*vq (gt X (i:Int))) n):=dA.sum D0 n (fun i hi=>by
     show dA (W*c) (if i=j then 0 else(A j i:Rat)*vq (gt X (i:Int)));by_cases q:i=j
     ·rw[if_pos q]
      have:=dA.int D0 0;rw[Rat.intCast_zero]at this;exact this
     ·rw[if_neg q]
      by_cases l:i<j
      ·have z:A j i=0:=Ext.bD (w:=n+m) (by rw[a.xu h2];exact l)
       rw[z,Rat.intCast_zero];have:=dA.int D0 0;rw[Rat.intCast_zero]at this;rw[show(0:Rat)*vq (gt X (i:Int))=0 by grind];exact this
      ·exact dA.mul _ (c2 i om hi))
    have h6:=dA.sub D0 h4 h5;rw[show(A j j:Rat)*vq (gt X (j:Int))+dm (fun i=>if i=j then 0 else(A j i:Rat)*vq (gt X (i:Int))) n-dm (fun i=>if i=j then 0 else(A j i:Rat)*vq (gt X (i:Int))) n=(A j j:Rat)*vq (gt X (j:Int)) by grind]at h6;exact h6
   ·exact(c2 j om h2).more om
theorem bM.back{g:List (List Int)}{m n s:Nat}{A:Nat->Ext.aS}(a:bM g m n n s A){B:List Fc}{W:Int}(w:sC B m W)(ht:∀i:Int,0<=i->i<m->cI (gt B i)/\(gt B i).d<=60){X:List Fc}(sx:Hw g B m n X):∃x,Of g (nT B W) m n (Ext.Mk A n) (W*Ext.Mk A n) x/\X=x.map (fun y=>fr y (W*Ext.Mk A n)):=by
 obtain⟨c,c0,c1,c2⟩:=a.Sz w ht sx n (Nat.le_refl n);rw[Nat.sub_self]at c1 c2;have ec:c=Ext.Mk A n:=by rw[<-c1];show c=c*1;rw[Int.mul_one]
 have mp:=qW n (fun i hi=>a.diag hi);have sp:0<W*Ext.Mk A n:=Int.mul_pos w.pos mp;rw[ec]at c2;obtain⟨size,es⟩:∃z,z=W*Ext.Mk A n:=⟨_,rfl⟩;rw[<-es]at c2 sp ⊢;have:∃y:Nat->Int,∀j:Nat,j<n->vq (gt X (j:Int))=rq (y j) size:=by
  have hy:∀j:Nat,∃y:Int,j<n->vq (gt X (j:Int))=rq y size:=fun j=>by
   by_cases h:j<n
   ·obtain⟨y,hy⟩:=c2 j (Nat.zero_le j) h
    exact⟨y,fun _=>hy⟩
   ·exact⟨0,fun q=>absurd q h⟩
  exact⟨fun j=>(hy j).choose,fun j hj=>(hy j).choose_spec hj⟩
 obtain⟨y,hy⟩:=this;have hp:∀j:Nat,j<n->0<=y j/\y j<size/\gt X (j:Int)=fr (y j) size:=fun j hj=>KG (sx.turn j hj) sp (hy j hj)
 have gy:∀j:Nat,j<n->gt (iK y n) (j:Int)=y j:=fun j hj=>dC y hj
 refine⟨iK y n,⟨aW y n,fun j hj=>?_,fun i hi=>?_⟩,?_⟩
 ·rw[gy j hj];exact⟨(hp j hj).1,(hp j hj).2.1⟩
 ·obtain⟨z,hz⟩:=sx.eqs i hi
  rw[da n (g:=fun j=>(Ext.el g i j:Rat)*rq (y j) size) (fun j hj=>by rw[hy j hj]),xw _ _ (show size≠0 by omega),BC w (show Ext.Mk A n≠0 by omega) ht hi,<-es,oX (l:=z) (show size≠0 by omega),vr (show size≠0 by omega)]at hz;have h2:=(Oe (show size≠0 by omega)).1 hz;rw[Ext.aN n (f:=fun j=>Ext.el g i j*gt (iK y n) (j:Int)) (g:=fun j=>Ext.el g i j*y j) (fun j hj=>by rw[gy j hj]),h2];exact⟨-z,by rw[Int.mul_neg,Int.mul_comm size];omega⟩
 ·exact KH sx.len (by rw[List.length_map,aW]) (fun j hj=>by
   rw[xz _ _ (by rw[aW];exact hj),gy j hj];exact(hp j hj).2.2)
def vt(n:Nat)(X Y:List Fc):Prop:=∃k:Nat,k<n/\(∀j:Nat,j<k->gt X (j:Int)=gt Y (j:Int))/\vq (gt X (k:Int))<vq (gt Y (k:Int))
theorem vt.irr{n:Nat}{X:List Fc}:¬vt n X X:=fun⟨_,_,_,h⟩=>Rat.lt_irrefl h
theorem vt.trans{n:Nat}{X Y Z:List Fc}(h:vt n X Y)(k:vt n Y Z):vt n X Z:=by
 obtain⟨a,a0,a1,a2⟩:=h;obtain⟨b,b0,b1,b2⟩:=k;rcases Nat.lt_trichotomy a b with c|c|c
 ·exact⟨a,a0,fun j hj=>(a1 j hj).trans (b1 j om),by rw[<-b1 a c];exact a2⟩
 ·subst c
  exact⟨a,a0,fun j hj=>(a1 j hj).trans (b1 j hj),by grind⟩
 ·exact⟨b,b0,fun j hj=>(a1 j om).trans (b1 j hj),by rw[a1 b c];exact b2⟩
theorem wa{n:Nat}:∀{L M:List (List Fc)},L.Pairwise (vt n)->M.Pairwise (vt n)->(∀X,X∈L↔X∈M)->L=M
 | [],[],_,_,_=>rfl
 | [],Y :: M,_,_,h=>absurd ((h Y).2 (List.mem_cons_self ..)) List.not_mem_nil
 |X :: L,[],_,_,h=>absurd ((h X).1 (List.mem_cons_self ..)) List.not_mem_nil
 |X :: L,Y :: M,hL,hM,h=>by
  obtain⟨l1,l2⟩:=List.pairwise_cons.1 hL;obtain⟨m1,m2⟩:=List.pairwise_cons.1 hM;have e:X=Y:=by
   rcases List.mem_cons.1 ((h X).1 (List.mem_cons_self ..))with q|q
   ·exact q
   ·rcases List.mem_cons.1 ((h Y).2 (List.mem_cons_self ..))with r|r
    ·exact r.symm
    ·exact absurd ((m1 X q).trans (l1 Y r)) vt.irr
  subst e;rw[wa l2 m2 (fun Z=>?_)];constructor
  ·intro q
   rcases List.mem_cons.1 ((h Z).1 (List.mem_cons_of_mem _ q))with r|r
   ·subst r;exact absurd (l1 Z q) vt.irr
   ·exact r
  ·intro q
   rcases List.mem_cons.1 ((h Z).2 (List.mem_cons_of_mem _ q))with r|r
   ·subst r;exact absurd (m1 Z q) vt.irr
   ·exact r
structure Q1(g:List (List Int))(B:List Fc)(m n:Nat)(L:List (List Fc)):Prop where
 mem:∀X,X∈L↔Hw g B m n X
 ord:L.Pairwise (vt n)
theorem Q1.uniq{g:List (List Int)}{B:List Fc}{m n:Nat}{L M:List (List Fc)}(a:Q1 g B m n L)(b:Q1 g B m n M):L=M:=
 wa a.ord b.ord (fun X=>(a.mem X).trans (b.mem X).symm)
variable{F:bk}{call head arith d0 f0 gM j0 k0 l0 o0 q0 ofNat s0 place u0 nz v0 rd wr w0 next x0 z0 g1 j1 o1 s1 u1 v1 f2 part g2 i2 putAt j2 aw aG o2 bT lt ne p2 s2 u2 yn yO v2 a3 b3 c3 f3:_}(hA:AP F ⟨call,head,arith,d0,f0,gM,j0,k0,l0,o0,q0,ofNat,s0,place,u0,nz,v0,rd,wr,w0,next,x0,z0,g1,j1,o1,s1,u1,v1,f2,part,g2,i2,putAt,j2,aw,aG,o2,bT,lt,ne,p2,s2,u2,yn,yO,v2,a3,b3,c3,f3⟩)
include hA
theorem Q2{h:af}(aq:h.low<=h.next){n d:Int}(hn:i64 n)(n0:-9223372036854775808<n)(hd:0<d){Q:Value->af->Prop}(hQ:Q (.int .i64 (n / d)) h):call 65 [.int .i64 n,.int .i64 d] h Q:=by
 unfold i64 at hn;have t0:=Int.natAbs_tdiv_le_natAbs n d;refine hA.aU Try.func65 x65.2 (hA.alike _ _ _ rfl) aq (zc ?_);have e1:arith .quo .i64 n d=n.tdiv d:=by rw[EG hA,wrap64 om om]
 have e2:arith .rem .i64 n d=n.tmod d:=IH hA _ _ _;have key:=Int.mul_tdiv_add_tmod n d;have lt1:-d<n.tmod d:=Int.lt_tmod_of_pos n hd;have lt2:n.tmod d<d:=Int.tmod_lt_of_pos n hd;generalize n.tdiv d=t at *;generalize n.tmod d=s at *;have ed:=Int.mul_ediv_add_emod n d;have m0:=Int.emod_nonneg n (show d≠0 by omega);have m1:=Int.emod_lt_of_pos n hd
 (refine zq ?_;repeat ((first|rw[e1]|rw[e2]);refine zq ?_))
 refine br (s<0) (by rw[aA hA]) (fun c=>?_) (fun c=>?_)<;>refine zc ?_
 ·have e3:t-1=n / d:=by
   have w:s+d+d*(t-1)=n:=by rw[Int.mul_sub,Int.mul_one];omega
   exact((Int.ediv_emod_unique hd).2 ⟨w,om,om⟩).1.symm
  have t1:-9223372036854775808<=t-1:=om
  refine zq ?_;rw[bO hA om om,e3];exact hQ
 ·have e3:t=n / d:=((Int.ediv_emod_unique (r:=s) hd).2 ⟨om,om,om⟩).1.symm
  refine zq ?_;rw[e3];exact hQ
theorem KI{h:af}(aq:h.low<=h.next){n d:Int}{q:Rat}(hq:jC n d q){Q:Value->af->Prop}(hQ:∀h',Ext h h'->Q (.tuple #[.int .i64 (n / d),.int .i64 0]) h'):call 46 [.agg #[.int .i64 n,.int .i64 d]] h Q:=by
 have d1:=hq.den;have n1:=hq.2.2.1;rw[<-hq.1]at n1;refine hA.aU Try.func46 x46.2 (hA.alike _ _ _ rfl) aq (zc ?_);refine lG hA aq hq.rW hq.sS (fun e h1 k1 x1=>⟨_,rfl,?_⟩);obtain rfl:e=0:=by
  rcases k1 with ⟨q,_⟩|⟨_,w⟩
  ·exact q
  ·exact absurd hq.ok w
 refine zq ?_;refine br False (by rw[cB hA];rfl) (fun q=>q.elim) (fun _=>?_)<;>refine zc ?_;refine zq ?_;refine Q2 hA (x1.aD aq) hq.rW om om ⟨_,rfl,?_⟩;refine zq ?_;exact hQ _ x1
theorem Q3{h:af}(aq:h.low<=h.next){n d z D:Int}(hq:jC n d (rq z D))(hD:0<D)(hD2:D<=1000000000000000000){Q:Value->af->Prop}(hQ:∀n' d' h',jC n' d' (rq (z % D) D)->Ext h h'->Q (.agg #[.int .i64 n',.int .i64 d']) h'):call 20 [.agg #[.int .i64 n,.int .i64 d]] h Q:=by
 have fl:=CS hq hD;have d1:=hq.den;have n1:=hq.2.2.1;have n2:=hq.2.2.2.1;rw[<-hq.1]at n1 n2;obtain⟨w,ew⟩:∃w,w=n / d:=⟨_,rfl⟩;have wb:-1000000000000000000<=w/\w<=1000000000000000000:=by
  have:=Int.natAbs_ediv_le_natAbs n d;rw[<-ew]at this;omega
 have hw:=P8 wb.1 wb.2;have m0:=Int.emod_nonneg z (show D≠0 by omega);have m1:=Int.emod_lt_of_pos z hD;have ev:rq z D-(w:Rat)=rq (z % D) D:=by
  rw[ew,fl,oX (l:=z / D) (show D≠0 by omega),Ob om]
  congr 1
  have:=Int.mul_ediv_add_emod z D;rw[Int.mul_comm]at this;omega
 refine hA.aU Try.func20 x20.2 (hA.alike _ _ _ rfl) aq (zc ?_);refine zq ?_;refine KI hA aq hq (fun h1 x1=>⟨_,_,rfl,?_⟩);rw[<-ew];obtain⟨X,eX⟩:∃z,z=aG h1 10:=⟨_,rfl⟩;have xb:Ext h1 X:=by rw[eX];exact au hA _ _
 have lX:X.low<=X.next:=(x1.trans xb).aD aq;refine zq ?_;rw[<-eX];refine TL hA (aB hA X) ⟨_,_,rfl,?_⟩;refine zq ?_;rw[bZ hA lX];refine I6 hA (aB hA X) hq.rW hq.sS hw.rW hw.sS (fun a b r k h2 x2=>⟨_,_,_,rfl,?_⟩);obtain⟨k1,rfl⟩:=Ip hq hw (f:=(· - ·)) (by show fits (rq z D-(w:Rat));rw[ev];exact xq om om om) k
 replace k1:jC a b (rq z D-(w:Rat)):=k1
 rw[ev]at k1;obtain⟨X2,XQ⟩:∃z,z=aw X h2:=⟨_,rfl⟩;have x3:Ext h X2:=by rw[XQ];exact cG hA aq (x1.trans xb) x2
 refine zq ?_;rw[<-XQ];exact hQ a b X2 k1 x3
theorem Q4{h0:af}(fF:h0.low<=h0.next){m n r k b c n1 c1 n2 c2:Nat}{a1 a2:Option Addr}{g:List (List Int)}(hM:nR g m n)(ir:nu g m n r)(ek:k=r+1)(B:I8 h0 1 b k c ((Hr g m n k).flatMap nC)){N:Int}(eN:N=k){Q:Exit->SS->Prop}
  (hQ:∀(h':af) qa qc kn T,lE h' 1 qa r qc ((AK g m n r).flatMap nC)->iJ h0.next qa->Ext h0 h'->Q (.exit 0) ⟨[(6,.slice qa r qc)],kn,T,h'⟩) :
  ∀(d i:Nat) (K:Int) (h:af) (qa:Option Addr) (qc:Nat),r-i<=d->i<=r->K=i+1->lE h 1 qa i qc ((AK g m n i).flatMap nC)->iJ h0.next qa->Ext h0 h->
   head 8 7 1 ⟨[(5,.slice (some ⟨b,0,none⟩) k c),(6,.slice qa i qc),(7,.int .i64 K)],1,[(0,[.slice a1 n1 c1,.slice a2 n2 c2])],h⟩ Q:=by
 intro d;have rm:=ir.lm;have m4:=hM.m4;have e1:ofNat k=N:=by rw[eN];exact aL hA k
 induction d with
 |zero=>
  intro i K h qa qc hd hi eK t hf x;refine hA.ar Try.func8 x8.2 (zc ?_)
  (refine zq ?_;repeat ((first|rw[e1]);refine zq ?_))
  refine br (K<N) (by rw[aA hA]) (fun q=>om) (fun _=>?_)<;>refine zc ?_;obtain rfl:i=r:=om
  exact hQ h qa qc _ _ t hf x
 |succ d ih=>
 intro i K h qa qc hd hi eK t hf x;by_cases ci:i<r
 rotate_left
 ·refine hA.ar Try.func8 x8.2 (zc ?_)
  (refine zq ?_;repeat ((first|rw[e1]);refine zq ?_))
  refine br (K<N) (by rw[aA hA]) (fun q=>om) (fun _=>?_)<;>refine zc ?_;obtain rfl:i=r:=om
  exact hQ h qa qc _ _ t hf x
 obtain⟨h9,iF⟩:∃z,z=aG h 14:=⟨_,rfl⟩;have x9:Ext h h9:=by rw[iF];exact au hA _ _
 have e9:=x.trans x9;have B9:=B.ext e9;have R9:=bW.rows B9.own dQ om B9.lt;rw[show(Hr g m n k).length=k from aW _ _]at R9;have nzx:=ir.pos (k:=i+1) om;have nzy:=ir.pos (k:=i) om;have lx:=Ext.R5 hM.nine m n (i+1);have ly:=Ext.R5 hM.nine m n i;have es:=KE g m n i;obtain⟨x1,QO⟩:∃z:Int,z=Ext.Dv g m n (i+1):=⟨_,rfl⟩;obtain⟨y1,XJ⟩:∃z:Int,z=Ext.Dv g m n i:=⟨_,rfl⟩;obtain⟨q,eq⟩:∃z:Int,z=((Ext.Dv g m n (i+1) / Ext.Dv g m n i:Nat):Int):=⟨_,rfl⟩;rw[<-eq]at es;have Zy:q=x1 / y1:=by rw[eq,QO,XJ];push_cast;rfl
 obtain⟨K1,eK1⟩:∃z:Int,z=K-1:=⟨_,rfl⟩;have m0:arith .sub .i64 K 1=K1:=by rw[eK1];exact bO hA om om
 have m1:arith .quo .i64 x1 y1=q:=by rw[Zy];exact uy hA om om om
 have gx:gt (Hr g m n k) K=x1:=by
  have:=dC (fun x=>(Ext.Dv g m n x:Int)) (n:=k) (i:=i+1) om;rw[QO,eK,show((i:Int)+1)=((i+1:Nat):Int) by omega];exact this
 have gy:gt (Hr g m n k) K1=y1:=by
  have:=dC (fun x=>(Ext.Dv g m n x:Int)) (n:=k) (i:=i) om;rw[XJ,eK1,eK,show((i:Int)+1-1)=(i:Int) by omega];exact this
 obtain⟨b',o',e',_,q1⟩:=R9.at (i:=K) om om;cases e';have q1:=q1 0 1 om om;obtain⟨b',o',e',_,q2⟩:=R9.at (i:=K1) om om;cases e';have q2:=q2 0 1 om om;rw[gx]at q1;rw[gy]at q2;have r1:rd h9 b (place 0 K 1) 1 [.int .i64 x1]:=aC hA q1;have r2:rd h9 b (place 0 K1 1) 1 [.int .i64 y1]:=aC hA q2;refine hA.ar Try.func8 x8.2 (zc ?_)
 (refine zq ?_;repeat ((first|rw[e1]);refine zq ?_))
 refine br (K<N) (by rw[aA hA]) (fun _=>?_) (fun q=>om)<;>refine zc ?_;refine zq ?_;rw[<-iF]
 (refine zq ?_;repeat ((first|rw[m0]|rw[m1]);refine zq ?_))
 refine Ir hA Pq dQ om zl fF x om iF (v:=q) t hf om (fun a' c' h' sZ Ly x'=>?_);obtain⟨hZ,Sl⟩:∃z,z=aw (putAt h9 (bT (next h) 11) 1 (nC q)) h':=⟨_,rfl⟩;rw[<-Sl]at sZ x';have Ux:hZ=aw (putAt h9 (bT (next h) 11) 1 [.int .i64 q]) h':=Sl;rw[<-es]at sZ;obtain⟨i1,Iy⟩:∃z,z=i+1:=⟨_,rfl⟩;rw[<-Iy]at sZ ⊢;refine zc ?_;rw[<-Ux];refine zq ?_;rw[aH hA om om];exact ih i1 (K+1) hZ a' c' om om om sZ Ly x'
theorem sD{h:af}(aq:h.low<=h.next){m ac k bc:Nat}{aa ba:Option Addr}{cT:List Hd}{g:List (List Int)}{B:List Fc}(hg:Ai nC 1 h aa m cT g)(hB:Rows fC 2 h ba k B)(hi:∀i:Int,0<=i->i<k->i64 (gt B i).n/\i64 (gt B i).d){Q:Value->af->Prop}
  (XR:∀e h',jK g B e->e≠0->Ext h h'->Q (.tuple #[.slice none 0 0,.int .i64 e]) h')
  (Uy:∀h' n r qa qc,jK g B 0->nR g m n->Ext h h'->nu g m n r->lE h' 1 qa r qc ((AK g m n r).flatMap nC)->Q (.tuple #[.slice qa r qc,.int .i64 0]) h'):call 8 [.agg #[.slice aa m ac,.slice ba k bc]] h Q:=by
 refine hA.aU Try.func8 x8.2 (hA.alike _ _ _ rfl) aq (zc ?_);refine Ff hA aq hg hB hi (fun e h1 he x1=>⟨e,rfl,?_⟩);refine zq ?_;refine br (e≠0) (by rw[cB hA]) (fun c=>?_) (fun c=>?_)<;>refine zc ?_
 ·refine zq ?_
  exact XR e h1 he c x1
 obtain rfl:e=0:=om
 obtain⟨gd,nm⟩:=he.rU;obtain⟨m',n,hM⟩:=gd.Zs nm;obtain rfl:m=m':=by have:=hg.len;have:=hM.len;omega
 have De:=hg.full (fun y y0 y1=>by rw[hM.row y y0 y1];exact hM.n1);refine zq ?_;refine v7 hA (x1.aD aq) hM (De.ext x1) (fun h2 b k2 c2 r ek ir B2 x2=>⟨_,_,_,rfl,?_⟩);obtain⟨N,eN⟩:∃z:Int,z=k2:=⟨_,rfl⟩;refine zq ?_;refine Q4 hA (x2.aD (x1.aD aq)) hM ir ek B2 eN (fun h' qa qc kn T t hf x=>?_) r 0 1 h2 none 0 om om rfl (.nil _ _) (.none _) (.refl _);refine zq ?_;exact Uy h' n r qa qc he hM ((x1.trans x2).trans x) ir t
theorem Oi{h:af}{n k nc kc:Nat}{ba pa:Option Addr}{b p:List Int}(hb:Rows nC 1 h ba n b)(hp:Rows nC 1 h pa k p)(hk:k<=n)(k4:k<=1000){B:Nat}(hB:∀i:Nat,i<k->(gt b (i:Int)*gt p (i:Int)).natAbs<=B)(Zl:k*B<=4000000000000000000){W M:Int}(eM:M=k){Q:Exit->SS->Prop}
  (hQ:∀t kn T,t=Ext.aV (fun i=>gt b (i:Int)*gt p (i:Int)) k->t.natAbs<=k*B->Q (.exit 0) ⟨[(2,.int .i64 W),(7,.int .i64 t)],kn,T,h⟩) :
  ∀(d i:Nat) (I t:Int),k-i<=d->i<=k->I=i->t=Ext.aV (fun i=>gt b (i:Int)*gt p (i:Int)) i->t.natAbs<=i*B->
   head 62 3 0 ⟨[(0,.slice ba n nc),(2,.int .i64 W),(7,.int .i64 t),(10,.slice pa k kc),(11,.int .i64 M),(12,.int .i64 I)],0,[],h⟩ Q:=by
 refine rS (fun d ih=>?_);intro i I t hd hi eI et bt;by_cases ci:i<k
 rotate_left
 ·refine hA.ar Try.func62 x62.2 (zc ?_)
  refine br (I<M) (by rw[aA hA]) (fun q=>om) (fun _=>?_)<;>refine zc ?_;obtain rfl:i=k:=om
  exact hQ t _ _ et bt
 obtain⟨d,rfl⟩:∃k,d=k+1:=⟨d-1,om⟩
 replace ih:=ih d rfl
 obtain⟨bb,bo,rfl,_,w1⟩:=hb.at (i:=I) om om;have w1:=w1 0 1 om om;obtain⟨pb,po,rfl,_,w2⟩:=hp.at (i:=I) om om;have w2:=w2 0 1 om om;have b1:=hB i ci;obtain⟨x,ex⟩:∃s,s=gt b (i:Int):=⟨_,rfl⟩;obtain⟨y,ey⟩:∃s,s=gt p (i:Int):=⟨_,rfl⟩;rw[eI,<-ex,<-eI]at w1;rw[eI,<-ey,<-eI]at w2;rw[<-ex,<-ey]at b1;have r1:rd h bb (place bo I 1) 1 [.int .i64 x]:=aC hA w1;have r2:rd h pb (place po I 1) 1 [.int .i64 y]:=aC hA w2;have h1:(i+1)*B<=k*B:=Nat.mul_le_mul_right _ ci;rw[Nat.add_mul]at h1;obtain⟨u,eu⟩:∃s,s=x*y:=⟨_,rfl⟩;rw[<-eu]at b1;have m1:arith .mul .i64 x y=u:=by rw[eu];exact jG hA (by rw[<-eu];omega) (by rw[<-eu];omega)
 obtain⟨t2,et2⟩:∃s,s=t+u:=⟨_,rfl⟩;have m2:arith .add .i64 t u=t2:=by clear et;rw[et2];exact aH hA om om
 have bt2:t2.natAbs<=(i+1)*B:=by clear et;rw[Nat.add_mul];omega
 have et3:t2=Ext.aV (fun i=>gt b (i:Int)*gt p (i:Int)) (i+1):=by
  show t2=Ext.aV (fun i=>gt b (i:Int)*gt p (i:Int)) i+gt b (i:Int)*gt p (i:Int);rw[et2,et,eu,ex,ey]
 refine hA.ar Try.func62 x62.2 (zc ?_);refine br (I<M) (by rw[aA hA]) (fun _=>?_) (fun q=>om)<;>refine zc ?_
 (refine zq ?_;repeat ((first|rw[m1]|rw[m2]);refine zq ?_))
 rw[aH hA om om];exact ih (i+1) (I+1) t2 om om om et3 bt2
theorem CV{h:af}(aq:h.low<=h.next){n k nc kc:Nat}{ba pa:Option Addr}{b p:List Int}(hb:Rows nC 1 h ba n b)(hp:Rows nC 1 h pa k p)(hk:k<=n)(k4:k<=1000){B:Nat}(hB:∀i:Nat,i<k->(gt b (i:Int)*gt p (i:Int)).natAbs<=B)(Zl:k*B<=4000000000000000000){W:Int}(hW:0<W)(hW2:W<=4000000000000000000){Q:Value->af->Prop}
  (hQ:∀v,v=Ext.aV (fun i=>gt b (i:Int)*gt p (i:Int)) k % W->Q (.int .i64 v) h):call 62 [.slice ba n nc,.slice pa k kc,.int .i64 W] h Q:=by
 obtain⟨M,eM⟩:∃s:Int,s=k:=⟨_,rfl⟩;have e0:ofNat k=M:=by rw[eM];exact aL hA k
 refine hA.aU Try.func62 x62.2 (hA.alike _ _ _ rfl) aq (zc ?_)
 (refine zq ?_;repeat ((first|rw[e0]);refine zq ?_))
 refine Oi hA hb hp hk k4 hB Zl eM (fun t kn T et bt=>?_) k 0 0 0 om om rfl rfl (by show(0:Int).natAbs<=_;exact Nat.zero_le _);have d1:=Int.mul_ediv_add_emod t W;have d2:=Int.emod_nonneg t (show W≠0 by omega);have d3:=Int.emod_lt_of_pos t hW;obtain⟨q,eq⟩:∃s,s=t / W:=⟨_,rfl⟩;obtain⟨r,er⟩:∃s,s=t % W:=⟨_,rfl⟩;obtain⟨u,eu⟩:∃s,s=W*q:=⟨_,rfl⟩;rw[<-eq,<-er,<-eu]at d1;rw[<-er]at d2 d3;have hv:r=Ext.aV (fun i=>gt b (i:Int)*gt p (i:Int)) k % W:=by rw[er,et]
 have hq:=hQ r hv;clear hv et;have m1:arith .mul .i64 W q=u:=by rw[eu];exact jG hA (by rw[<-eu];omega) (by rw[<-eu];omega)
 have m2:arith .sub .i64 t u=r:=by rw[bO hA om om];omega
 refine zq ?_;refine rJ hA hW om om aq (fun q' XS=>⟨q',rfl,?_⟩);obtain rfl:q'=q:=by rw[XS,eq]
 (refine zq ?_;repeat ((first|rw[m1]|rw[m2]);refine zq ?_))
 exact hq
theorem Uz{h0:af}(fF:h0.low<=h0.next){k bc:Nat}{ba:Option Addr}{B:List Fc}(hB:Rows fC 2 h0 ba k B)(k4:k<=4)(ht:∀i:Int,0<=i->i<k->cI (gt B i)/\(gt B i).d<=60){M:Int}(eM:M=k){Q:Exit->SS->Prop}
  (hQ:∀W h' ,sC B k W->Ext h0 h'->Q (.exit 0) ⟨[(0,.slice ba k bc),(2,.slice none 0 0),(3,.int .i64 W)],0,[],h'⟩) :
  ∀(d i:Nat) (I W:Int) (h:af),k-i<=d->i<=k->I=i->sC B i W->Ext h0 h->
   head 48 3 0 ⟨[(0,.slice ba k bc),(2,.slice none 0 0),(3,.int .i64 W),(9,.slice ba k bc),(10,.int .i64 M),(11,.int .i64 I)],0,[],h⟩ Q:=by
 refine rS (fun d ih=>?_);intro i I W h hd hi eI w x;by_cases ci:i<k
 rotate_left
 ·refine hA.ar Try.func48 x48.2 (zc ?_)
  refine br (I<M) (by rw[aA hA]) (fun q=>om) (fun _=>?_)<;>refine zc ?_;obtain rfl:i=k:=om
  exact hQ W h w x
 obtain⟨d,rfl⟩:∃k,d=k+1:=⟨d-1,om⟩
 replace ih:=ih d rfl
 obtain⟨⟨ok,n0,n1⟩,d60⟩:=ht i om om;obtain⟨bb,bo,rfl,_,w1⟩:=(hB.ext x).at (i:=I) om om;have w1:=w1 0 2 om om;obtain⟨f,ef⟩:∃f,f=gt B (i:Int):=⟨_,rfl⟩;rw[eI,<-ef,<-eI]at w1;rw[<-ef]at ok n0 n1 d60;have f1:=ok.is.den;have w2:=w.step (d:=f.d) (by rw[ef]) f1 d60;have wp:=w.pos;have wl:=w.le;have p60:(60:Nat) ^ i<=60 ^ 4:=Nat.pow_le_pow_right om om;obtain⟨fn,fd⟩:=f;simp only at *;have r1:rd h bb (place bo I 2) 2 [.int .i64 fn,.int .i64 fd]:=aC hA w1;have w2l:=w2.le;have w2p:=w2.pos;have p61:(60:Nat) ^ (i+1)<=60 ^ 4:=Nat.pow_le_pow_right om om;have gpos:0<Int.gcd W fd:=Int.gcd_pos_of_ne_zero_left fd om;refine hA.ar Try.func48 x48.2 (zc ?_);refine br (I<M) (by rw[aA hA]) (fun _=>?_) (fun q=>om)<;>refine zc ?_;refine zq ?_;refine II hA (x.aD fF) (a:=W) (b:=fd) om om (fun h' x'=>⟨_,rfl,?_⟩);obtain⟨G,eG⟩:∃s:Int,s=(Int.gcd W fd:Int):=⟨_,rfl⟩;rw[<-eG]at w2 w2l w2p ⊢;have m1:arith .quo .i64 fd G=fd / G:=uy hA om om om;obtain⟨c,ec⟩:∃s,s=fd / G:=⟨_,rfl⟩;rw[<-ec]at w2 w2l w2p m1;obtain⟨W2,Zz⟩:∃s,s=W*c:=⟨_,rfl⟩;rw[<-Zz]at w2 w2l w2p;have m2:arith .mul .i64 W c=W2:=by rw[Zz];exact jG hA (by rw[<-Zz];omega) (by rw[<-Zz];omega)
 (refine zq ?_;repeat ((first|rw[m1]|rw[m2]);refine zq ?_))
 rw[aH hA om om];exact ih (i+1) (I+1) W2 h' om om om w2 (x.trans x')
omit hA in
theorem KJ(B:List Fc)(W:Int)(k:Nat):AL B W (k+1)=AL B W k++[(gt B (k:Int)).n*(W / (gt B (k:Int)).d)]:=iM _ _
theorem UA{h0:af}(fF:h0.low<=h0.next){k bc:Nat}{ba:Option Addr}{B:List Fc}(hB:Rows fC 2 h0 ba k B)(k4:k<=4)(ht:∀i:Int,0<=i->i<k->cI (gt B i)/\(gt B i).d<=60){M W:Int}(eM:M=k)(w:sC B k W){Q:Exit->SS->Prop}
  (hQ:∀h' qa qc,lE h' 1 qa k qc ((AL B W k).flatMap nC)->iJ h0.next qa->Ext h0 h'->Q (.exit 2) ⟨[(2,.slice qa k qc),(3,.int .i64 W)],0,[],h'⟩) :
  ∀(d i:Nat) (I:Int) (h:af) (qa:Option Addr) (qc:Nat),k-i<=d->i<=k->I=i->lE h 1 qa i qc ((AL B W i).flatMap nC)->iJ h0.next qa->Ext h0 h->
   head 48 9 0 ⟨[(2,.slice qa i qc),(3,.int .i64 W),(25,.slice ba k bc),(26,.int .i64 M),(27,.int .i64 I)],0,[],h⟩ Q:=by
 refine rS (fun d ih=>?_);intro i I h qa qc hd hi eI t hf x;by_cases ci:i<k
 rotate_left
 ·refine hA.ar Try.func48 x48.2 (zc ?_)
  refine br (I<M) (by rw[aA hA]) (fun q=>om) (fun _=>?_)<;>refine zc ?_;obtain rfl:i=k:=om
  exact hQ h qa qc t hf x
 obtain⟨d,rfl⟩:∃k,d=k+1:=⟨d-1,om⟩
 replace ih:=ih d rfl
 obtain⟨⟨ok,n0,n1⟩,d60⟩:=ht i om om;obtain⟨bb,bo,rfl,_,w1⟩:=(hB.ext x).at (i:=I) om om;have w1:=w1 0 2 om om;obtain⟨pq,p0,p1,_⟩:=w.part ht ci;have es:=KJ B W i;have wp:=w.pos;have wl:=w.le;have p60:(60:Nat) ^ k<=60 ^ 4:=Nat.pow_le_pow_right om om;obtain⟨f,ef⟩:∃f,f=gt B (i:Int):=⟨_,rfl⟩;rw[eI,<-ef,<-eI]at w1;rw[<-ef]at ok n0 n1 d60 es p0 p1;have f1:=ok.is.den;obtain⟨fn,fd⟩:=f;simp only at *;have r1:rd h bb (place bo I 2) 2 [.int .i64 fn,.int .i64 fd]:=aC hA w1;have m1:arith .quo .i64 W fd=W / fd:=uy hA om om om;obtain⟨c,ec⟩:∃s,s=W / fd:=⟨_,rfl⟩;rw[<-ec]at m1 es p0 p1;obtain⟨q,eq⟩:∃s,s=fn*c:=⟨_,rfl⟩;rw[<-eq]at es p0 p1;have m2:arith .mul .i64 fn c=q:=by rw[eq];exact jG hA (by rw[<-eq];omega) (by rw[<-eq];omega)
 obtain⟨h9,iF⟩:∃z,z=aG h 11:=⟨_,rfl⟩;refine hA.ar Try.func48 x48.2 (zc ?_);refine br (I<M) (by rw[aA hA]) (fun _=>?_) (fun q=>om)<;>refine zc ?_;refine zq ?_;rw[<-iF]
 (refine zq ?_;repeat ((first|rw[m1]|rw[m2]);refine zq ?_))
 refine Ir hA Pq dQ om zl fF x om iF (v:=q) t hf om (fun a' c' h' sZ Ly x'=>?_);obtain⟨hZ,Sl⟩:∃z,z=aw (putAt h9 (bT (next h) 8) 1 (nC q)) h':=⟨_,rfl⟩;rw[<-Sl]at sZ x';have Ux:hZ=aw (putAt h9 (bT (next h) 8) 1 [.int .i64 q]) h':=Sl;rw[<-es]at sZ;obtain⟨i1,Iy⟩:∃z,z=i+1:=⟨_,rfl⟩;rw[<-Iy]at sZ ⊢;refine zc ?_;rw[<-Ux];refine zq ?_;rw[aH hA om om];exact ih i1 (I+1) hZ a' c' om om om sZ Ly x'
theorem BD{h:af}(aq:h.low<=h.next){k bc:Nat}{ba:Option Addr}{B:List Fc}(hB:Rows fC 2 h ba k B)(k4:k<=4)(ht:∀i:Int,0<=i->i<k->cI (gt B i)/\(gt B i).d<=60){Q:Value->af->Prop}
  (hQ:∀W h' qa qc,sC B k W->lE h' 1 qa k qc ((AL B W k).flatMap nC)->Ext h h'->Q (.tuple #[.slice qa k qc,.int .i64 W]) h'):call 48 [.slice ba k bc] h Q:=by
 obtain⟨M,eM⟩:∃s:Int,s=k:=⟨_,rfl⟩;have e0:ofNat k=M:=by rw[eM];exact aL hA k
 refine hA.aU Try.func48 x48.2 (hA.alike _ _ _ rfl) aq (zc ?_)
 (refine zq ?_;repeat ((first|rw[e0]);refine zq ?_))
 refine Uz hA aq hB k4 ht eM (fun W h1 w x=>?_) k 0 0 1 h om om rfl (sC.start B) (.refl h)
 (refine zq ?_;repeat ((first|rw[e0]);refine zq ?_))
 refine UA hA aq hB k4 ht eM w (fun h2 qa qc t hf x2=>?_) k 0 0 h1 none 0 om om rfl (.nil _ _) (.none _) x;refine zq ?_;exact hQ W h2 qa qc w t x2
theorem Oj{h:af}(aq:h.low<=h.next){h0:af}{m n r s pc qc:Nat}{pa qa:Option Addr}{rb:Nat->Nat}{g:List (List Int)}{B:List Fc}{A:Nat->Ext.aS}(hM:nR g m n)(a:bM g m n r s A)(ht:∀i:Int,0<=i->i<m->cI (gt B i)/\(gt B i).d<=60){W:Int}(w:sC B m W)(hp:Rows nC 1 h pa m (AL B W m))(hr:FV h0 h s m qa qc rb (fun y j=>A (r+y) (n+j))){S:Int}(eS:S=s){c1:List Value}{Q:Exit->SS->Prop}
  (jl:(¬∀i,i<s->Ext.aV (fun j=>A (r+i) (n+j)*nT B W j) m % W=0)->∀env kn T,Q .ret ⟨(2,.bool false) :: env,kn,T,h⟩)
  (fI:(∀i,i<s->Ext.aV (fun j=>A (r+i) (n+j)*nT B W j) m % W=0)->∀kn T,Q (.exit 0) ⟨[],kn,T,h⟩) :
  ∀(d i:Nat) (I:Int),s-i<=d->i<=s->I=i->(∀j,j<i->Ext.aV (fun k=>A (r+j) (n+k)*nT B W k) m % W=0)->
   head 34 4 1 ⟨[(3,.slice pa m pc),(4,.int .i64 W),(21,.slice qa s qc),(22,.int .i64 S),(23,.int .i64 I)],1,[(0,c1)],h⟩ Q:=by
 intro d;have m4:=hM.m4;have hs:=a.sum;have hW:=w.gi m4
 induction d with
 |zero=>
  intro i I hd hi eI hz;refine hA.ar Try.func34 x34.2 (zc ?_);refine br (I<S) (by rw[aA hA]) (fun q=>om) (fun _=>?_)<;>refine zc ?_;exact fI (fun j hj=>hz j om) _ _
 |succ d ih=>
 intro i I hd hi eI hz;by_cases ci:i<s
 rotate_left
 ·refine hA.ar Try.func34 x34.2 (zc ?_)
  refine br (I<S) (by rw[aA hA]) (fun q=>om) (fun _=>?_)<;>refine zc ?_;exact fI (fun j hj=>hz j om) _ _
 obtain⟨b,rfl,_,q1⟩:=hr.head ci;obtain⟨cw,qU⟩:∃z,z=az 1 m:=⟨_,rfl⟩;rw[<-qU]at q1;have r1:rd h b (place 0 I 1) 1 [.slice (some ⟨rb i,0,none⟩) m cw]:=aC hA (by rw[eI];exact q1);have rw1:=hr.rows.jW ci;have ev:∀v,v=Ext.aV (fun k=>gt (iK (fun j=>A (r+i) (n+j)) m) (k:Int)*gt (AL B W m) (k:Int)) m % W->v=Ext.aV (fun k=>A (r+i) (n+k)*nT B W k) m % W:=fun v hv=>by
  rw[hv]
  congr 1
  exact Ext.aN m (fun k hk=>by rw[dC _ hk,CU hk])
 refine hA.ar Try.func34 x34.2 (zc ?_);refine br (I<S) (by rw[aA hA]) (fun _=>?_) (fun q=>om)<;>refine zc ?_;refine zq ?_;refine CV hA aq rw1 hp (Nat.le_refl m) om (B:=8162933760000) (fun k hk=>?_) om w.pos om (fun v hv=>⟨v,rfl,?_⟩)
 ·rw[dC _ hk,CU hk]
  obtain⟨_,p0,p1,_⟩:=w.part ht hk;exact Ja (a.small hM om _) p0 p1 hW
 have Dw:=ev v hv;clear hv ev;refine zq ?_;refine br (v≠0) (by rw[cB hA]) (fun c=>?_) (fun c=>?_)<;>refine zc ?_
 ·refine zq ?_
  exact jl (fun q=>c (Dw.trans (q i ci))) _ _ _
 ·refine zq ?_
  rw[aH hA om om];refine ih (i+1) (I+1) om om om (fun j hj=>?_);by_cases e:j=i
  ·rw[e,<-Dw];omega
  ·exact hz j om
theorem Fm(hI:sT F){h:af}(aq:h.low<=h.next){m n ac k bc:Nat}{aa ba:Option Addr}{cT:List Hd}{g:List (List Int)}{B:List Fc}(hM:nR g m n)(hg:mP nC 1 h aa m cT g)(hB:Rows fC 2 h ba k B)(ekm:k=m)(ht:∀i:Int,0<=i->i<m->cI (gt B i)/\(gt B i).d<=60){Q:Value->af->Prop}
  (hQ:∀(b:Bool) h',(b=true↔ml g B m n)->Ext h h'->Q (.bool b) h'):call 34 [.agg #[.slice aa m ac,.slice ba k bc]] h Q:=by
 subst ekm;refine hA.aU Try.func34 x34.2 (hA.alike _ _ _ rfl) aq (zc ?_);refine zq ?_;refine BD hA aq hB hM.m4 ht (fun W h1 pa pc w t x1=>⟨_,_,_,_,rfl,?_⟩);refine zq ?_;refine Fg hA hI (x1.aD aq) hM (hg.ext x1) (fun h2 r s ra rc qa qc bs rb A st rw hd gd _=>⟨_,_,_,_,_,_,rfl,?_⟩);obtain⟨S,eS⟩:∃z:Int,z=s:=⟨_,rfl⟩;have e0:ofNat s=S:=by rw[eS];exact aL hA s
 have x2:=rw.ext
 (refine zq ?_;repeat ((first|rw[e0]);refine zq ?_))
 refine Oj hA (x2.aD (x1.aD aq)) hM st ht w ⟨(t.ext x2).cells,dQ,om⟩ gd eS (fun q env kn T=>?_) (fun q kn T=>?_) s 0 0 om om rfl (fun j hj=>om)
 ·refine zq ?_
  exact hQ false h2 ⟨(fun q=>by cases q),fun z=>absurd ((st.holds ht w).2 z) q⟩ (x1.trans x2)
 ·refine zq ?_
  exact hQ true h2 ⟨fun _=>(st.holds ht w).1 q,fun _=>rfl⟩ (x1.trans x2)
theorem Ok(hI:sT F){h:af}(aq:h.low<=h.next){m ac k bc:Nat}{aa ba:Option Addr}{cT:List Hd}{g:List (List Int)}{B:List Fc}(hg:Ai nC 1 h aa m cT g)(hB:Rows fC 2 h ba k B)(hi:∀i:Int,0<=i->i<k->i64 (gt B i).n/\i64 (gt B i).d){Q:Value->af->Prop}
  (XR:∀e h',jK g B e->e≠0->Ext h h'->Q (.tuple #[.int .i64 0,.int .i64 0,.int .i64 e]) h')
  (Uy:∀h' n,jK g B 0->nR g m n->¬ml g B m n->Ext h h'->Q (.tuple #[.int .i64 0,.int .i64 0,.int .i64 6]) h')
  (VA:∀h' n r (c f:Int),jK g B 0->nR g m n->ml g B m n->nu g m n r->c=(Ext.Dv g m n r:Nat)->f=(n:Int)-r->Ext h h'->Q (.tuple #[.int .i64 c,.int .i64 f,.int .i64 0]) h'):call 24 [.agg #[.slice aa m ac,.slice ba k bc]] h Q:=by
 refine hA.aU Try.func24 x24.2 (hA.alike _ _ _ rfl) aq (zc ?_);refine zq ?_;refine Ff hA aq hg hB hi (fun e h1 he x1=>⟨e,rfl,?_⟩);refine zq ?_;refine br (e≠0) (by rw[cB hA]) (fun c=>?_) (fun c=>?_)<;>refine zc ?_
 ·refine zq ?_
  exact XR e h1 he c x1
 obtain rfl:e=0:=om
 obtain⟨gd,nm⟩:=he.rU;obtain⟨m',n,hM⟩:=gd.Zs nm;obtain rfl:m=m':=by have:=hg.len;have:=hM.len;omega
 have De:=hg.full (fun y y0 y1=>by rw[hM.row y y0 y1];exact hM.n1);have Vz:k=m:=by have:=gd.len;have:=hB.len;have:=hg.len;omega
 refine zq ?_;refine Fm hA hI (x1.aD aq) hM (De.ext x1) (hB.ext x1) Vz (fun i i0 i1=>gd.turn i i0 (by have:=hB.len;omega)) (fun b h2 hb x2=>⟨b,rfl,?_⟩);have y2:=x1.trans x2;cases b with
 |false=>
  refine zq ?_;rw[show gM false=true by rw[dk hA];rfl];refine zq ?_;exact Uy h2 n he hM (fun q=>by have:=hb.2 q;cases this) y2
 |true=>
  refine zq ?_;rw[show gM true=false by rw[dk hA];rfl];refine zq ?_;refine v7 hA (y2.aD aq) hM (De.ext y2) (fun h3 b k2 c2 r ek ir B2 x3=>⟨_,_,_,rfl,?_⟩);have y3:=y2.trans x3;obtain⟨h9,zN⟩:∃z,z=aG h3 18:=⟨_,rfl⟩;have xb:Ext h3 h9:=by rw[zN];exact au hA _ _
  have y9:=y3.trans xb;have B9:=B2.ext xb;have R9:=bW.rows B9.own dQ om B9.lt;rw[show(Hr g m n k2).length=k2 from aW _ _]at R9;have rm:=ir.lm;have rn:=ir.ln;have m4:=hM.m4;have mm1:=hM.m1;have n4:=hM.n4;obtain⟨K2,XT⟩:∃z:Int,z=k2:=⟨_,rfl⟩;have e0:ofNat k2=K2:=by rw[XT];exact aL hA k2
  obtain⟨R,eR⟩:∃z:Int,z=r:=⟨_,rfl⟩;have m1:arith .sub .i64 K2 1=R:=by rw[bO hA om om];omega
  obtain⟨x,ex⟩:∃z:Int,z=(Ext.Dv g m n r:Nat):=⟨_,rfl⟩;have gx:gt (Hr g m n k2) R=x:=by
   rw[ex,eR];exact dC (fun x=>(Ext.Dv g m n x:Int)) (n:=k2) (i:=r) om
  obtain⟨b',o',e',_,q1⟩:=R9.at (i:=R) om om;cases e';have q1:=q1 0 1 om om;rw[gx]at q1;have r1:rd h9 b (place 0 R 1) 1 [.int .i64 x]:=aC hA q1;obtain⟨N,eN⟩:∃z:Int,z=n:=⟨_,rfl⟩;have e1:ofNat n=N:=by rw[eN];exact aL hA n
  have KD:(gt g 0).length=n:=hM.row 0 om (by have:=hM.m1;omega);obtain⟨ab,ao,rfl,MD,w2⟩:=(De.ext y9).mj (i:=0) om (by have:=hM.m1;omega);have row:=(De.ext y9).row 0 om (by have:=hM.m1;omega);have tM:=row.len;rw[KD]at tM;rw[<-tM]at w2;have r2:rd h9 ab (place ao 0 1) 1 [.slice (gt cT 0).a n (gt cT 0).c]:=aC hA w2
  (refine zq ?_;repeat ((first|rw[e0]|rw[m1]);refine zq ?_))
  rw[<-zN]
  (refine zq ?_;repeat ((first|rw[e0]|rw[e1]|rw[m1]);refine zq ?_))
  rw[bO hA om om];exact VA h9 n r x (N-R) he hM (hb.1 rfl) ir ex om y9
