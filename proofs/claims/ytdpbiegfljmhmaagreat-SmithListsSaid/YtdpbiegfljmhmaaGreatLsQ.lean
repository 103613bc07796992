import Derived.Test.YtdpbiegfljmhmaaGreatSlA
import Derived.Test.YtdpbiegfljmhmaaGreatSmS
import Derived.Test.YtdpbiegfljmhmaaGreatSimD
import Derived.Test.YtdpbiegfljmhmaaGreatIvA
import Derived.Test.YtdpbiegfljmhmaaGreatDetH
import Derived.Test.YtdpbiegfljmhmaaGreatDetK
set_option linter.unusedSimpArgs false
set_option linter.unusedVariables false
namespace Go.Proofs.YtdpbiegfljmhmaaGreat
open Go.cV
set_option maxRecDepth 100000
theorem TI(a b:Int):rq a b=Rat.divInt a b:=by unfold rq;rw[Rat.divInt_eq_div]
theorem lD{a b:Int}(ha:a.natAbs<=1000000000000000000)(hb:b.natAbs<=1000000000000000000)(h0:b≠0):fits (rq a b):=by
 unfold fits;rw[TI,Rat.num_divInt,Rat.den_divInt,if_neg h0];have h1:(b.sign*a / (Int.gcd b a:Int)).natAbs<=a.natAbs:=by
  refine Nat.le_trans (Int.natAbs_ediv_le_natAbs _ _) ?_;rw[Int.natAbs_mul];have:b.sign.natAbs<=1:=by
   rcases Int.lt_trichotomy b 0 with q|q|q
   ·rw[Int.sign_eq_neg_one_of_neg q];decide
   ·omega
   ·rw[Int.sign_eq_one_of_pos q];decide
  calc b.sign.natAbs*a.natAbs<=1*a.natAbs:=Nat.mul_le_mul_right _ this
   _=a.natAbs:=Nat.one_mul _
 have h2:b.natAbs / Int.gcd b a<=b.natAbs:=Nat.div_le_self _ _;omega
theorem qF{b:Int}(h:b≠0):(b:Rat)≠0:=fun q=>h (Rat.intCast_eq_zero_iff.1 q)
theorem sI{a b d:Int}(hd:d≠0):rq a d+rq b d=rq (a+b) d:=by
 have:=qF hd;unfold rq;rw[Rat.intCast_add];grind
theorem u6{a b d:Int}(hd:d≠0):rq a d-rq b d=rq (a-b) d:=by
 have:=qF hd;unfold rq;rw[Rat.intCast_sub];grind
theorem u7(l a d:Int):(l:Rat)*rq a d=rq (l*a) d:=by
 unfold rq;rw[Rat.intCast_mul];grind
theorem jX{l d:Int}(hd:d≠0):(l:Rat)=rq (l*d) d:=by
 have:=qF hd;unfold rq;rw[Rat.intCast_mul];grind
theorem NM(l:Int):rq l 1=(l:Rat):=by unfold rq;rw[Rat.intCast_one];grind
theorem CC{a d c:Int}(hc:c≠0):rq (a*c) (d*c)=rq a d:=by
 have:=qF hc;unfold rq;rw[Rat.intCast_mul,Rat.intCast_mul];by_cases h:(d:Rat)=0
 ·rw[h];simp[Rat.div_def,Rat.inv_zero]
 ·grind
theorem NN{a b d e:Int}(hd:d≠0)(he:e≠0):rq a d=rq b e↔a*e=b*d:=by
 have h1:=qF hd;have h2:=qF he;rw[<-Rat.intCast_inj (a:=a*e),Rat.intCast_mul,Rat.intCast_mul];unfold rq;constructor<;>intro h<;>grind
theorem NO{a b d:Int}(hd:d≠0):rq a d=rq b d↔a=b:=by
 rw[NN hd hd];exact⟨fun h=>Int.eq_of_mul_eq_mul_right hd h,fun h=>by rw[h]⟩
theorem Qo{n d z D:Int}(h:fW n d (rq z D))(hD:D≠0):n*D=z*d:=by
 have h1:=h.val;have hd:=h.den;exact(NN (a:=n) (b:=z) om hD).1 h1.symm
theorem wP{n d z D:Int}(h:fW n d (rq z D))(hD:0<D):n / d=z / D:=by
 have hd:=h.den;have hc:=Qo h om;rw[<-Int.mul_ediv_mul_of_pos_left n d hD,hc,Int.mul_comm d D,Int.mul_ediv_mul_of_pos_left z D om]
theorem TJ{n d m e:Int}{p q:Rat}(h:fW n d p)(k:fW m e q):(n=m/\d=e)↔p=q:=by
 constructor
 ·rintro⟨rfl,rfl⟩;exact h.uniq k
 ·rintro rfl;exact⟨h.1.trans k.1.symm,h.2.1.trans k.2.1.symm⟩
theorem Km(g:List (List Int))(m n r:Nat):Ej g m n (r+1)=Ej g m n r++[((Ext.Dv g m n (r+1) / Ext.Dv g m n r:Nat):Int)]:=nH _ _
theorem oC.pos{g:List (List Int)}{m n r:Nat}(h:oC g m n r){k:Nat}(hk:k<=r):Ext.Dv g m n k≠0:=by
 cases k with
 |zero=>rw[Ext.Cl];decide
 |succ k=>exact h.nz k om
structure wk(B:List Fc)(i:Nat)(W:Int):Prop where
 pos:0<W
 le:W<=((60 ^ i:Nat):Int)
 dvd:∀j:Nat,j<i->(gt B (j:Int)).d∣W
theorem wk.start(B:List Fc):wk B 0 1:=⟨by decide,by decide,fun j hj=>om⟩
theorem wk.step{B:List Fc}{i:Nat}{W d:Int}(w:wk B i W)(ed:d=(gt B (i:Int)).d)(d1:1<=d)(d60:d<=60):wk B (i+1) (W*(d / (Int.gcd W d:Int))):=by
 have hp:=w.pos;have g0:0<Int.gcd W d:=Int.gcd_pos_of_ne_zero_left d om;have gd:(Int.gcd W d:Int)∣d:=Int.gcd_dvd_right W d;have gw:(Int.gcd W d:Int)∣W:=Int.gcd_dvd_left W d;obtain⟨c,hc⟩:=gd;obtain⟨v,hv⟩:=gw;obtain⟨G,eG⟩:∃s:Int,s=(Int.gcd W d:Int):=⟨_,rfl⟩;rw[<-eG]at hc hv ⊢;have G0:0<G:=om
 have eq:d / G=c:=by rw[hc];exact Int.mul_ediv_cancel_left c om
 rw[eq];have c0:0<c:=by
  by_cases q:0<c
  ·exact q
  ·have:=Int.mul_le_mul_of_nonneg_left (show c<=0 by omega) (Int.le_of_lt G0)
   rw[Int.mul_zero]at this;omega
 have cd:c<=d:=by
  rw[hc];have:=Int.mul_le_mul_of_nonneg_right (show 1<=G by omega) (Int.le_of_lt c0);rw[Int.one_mul]at this;exact this
 refine⟨Int.mul_pos hp c0,?_,fun j hj=>?_⟩
 ·have h1:W*c<=((60 ^ i:Nat):Int)*60:=Int.mul_le_mul w.le om (Int.le_of_lt c0) (Int.natCast_nonneg _)
  rw[Nat.pow_succ];omega
 ·by_cases e:j=i
  ·rw[e,<-ed]
   exact⟨v,by rw[hc,hv,Int.mul_assoc,Int.mul_assoc,Int.mul_comm v c]⟩
  ·exact Int.dvd_mul_of_dvd_left (w.dvd j om)
def Av(B:List Fc)(W:Int)(k:Nat):List Int:=kR (fun i=>(gt B (i:Int)).n*(W / (gt B (i:Int)).d)) k
theorem Qp{B:List Fc}{W:Int}{k i:Nat}(h:i<k):gt (Av B W k) (i:Int)=(gt B (i:Int)).n*(W / (gt B (i:Int)).d):=fU _ h
theorem wk.part{B:List Fc}{k:Nat}{W:Int}(w:wk B k W)(ht:∀i:Int,0<=i->i<k->cH (gt B i)/\(gt B i).d<=60){i:Nat}(hi:i<k):fW (gt B (i:Int)).n (gt B (i:Int)).d (rq ((gt B (i:Int)).n*(W / (gt B (i:Int)).d)) W)/\0<=(gt B (i:Int)).n*(W / (gt B (i:Int)).d)/\(gt B (i:Int)).n*(W / (gt B (i:Int)).d)<W/\(gt B (i:Int)).n*(W / (gt B (i:Int)).d)<=W:=by
 obtain⟨⟨ok,n0,n1⟩,_⟩:=ht i om om;obtain⟨c,hc⟩:=w.dvd i hi;obtain⟨f,ef⟩:∃f,f=gt B (i:Int):=⟨_,rfl⟩;rw[<-ef]at ok n0 n1 hc ⊢;have f1:=ok.is.den;have wp:=w.pos;have ec:W / f.d=c:=by rw[hc];exact Int.mul_ediv_cancel_left c om
 rw[ec];have c0:0<c:=by
  by_cases q:0<c
  ·exact q
  ·have:=Int.mul_le_mul_of_nonneg_left (show c<=0 by omega) (show 0<=f.d by omega)
   rw[Int.mul_zero]at this;omega
 have h1:f.n*c<f.d*c:=Int.mul_lt_mul_of_pos_right n1 c0;refine⟨?_,Int.mul_nonneg n0 om,om,om⟩;have:=ok.is;rw[hc,CC om];exact this
end Go.Proofs.YtdpbiegfljmhmaaGreat
namespace Go.Proofs.YtdpbiegfljmhmaaGreat.Ext
structure Pl where
 β:Nat->Nat->Nat
 K:Nat->Nat->Nat
 μ:Nat->Nat->Nat
 U:Nat->Nat
end Go.Proofs.YtdpbiegfljmhmaaGreat.Ext
namespace Go.Proofs.YtdpbiegfljmhmaaGreat
open Go.cV
namespace Ext
def bC:Nat->Nat
 |0=>9|1=>162|2=>52488|_=>157464
def bU:Nat->Nat
 |0=>1|1=>18|2=>5832|_=>157464
def uU:Nat->Nat
 |0=>0|1=>162|2=>8503218|3=>1338959222370|_=>210839243950492050
def P1(n:Nat):Pl:=⟨fun a c=>if c<n then bC a else bU a,fun a c=>if c<n then bC (a+1)else bU (a+1),fun a c=>if c<n then bC (a+1)else bU (a+1),uU⟩
end Ext
namespace Ext
def b2(s b:Nat):Nat->Nat
 |0=>b
 |a+1=>if a+1<s then 2*(b2 s b a*b2 s b a)else b2 s b a
def u2(s b:Nat):Nat->Nat
 |0=>0
 |a+1=>u2 s b a+u2 s b a*b2 s b (a+1)+b2 s b (a+1)
end Ext
namespace Ext
theorem zo(f:Nat->Int)(r:Nat):∀s,aV f (r+s)=aV f r+aV (fun i=>f (r+i)) s
 |0=>by show aV f r=aV f r+0;omega
 |s+1=>by
  show aV f (r+s)+f (r+s)=aV f r+(aV (fun i=>f (r+i)) s+f (r+s));rw[zo f r s];omega
theorem Sp.rest{n m r s:Nat}{F:Nat->aR}{v:aR}(hs:r+s=m)(top:BP (n+m) r F)(lead:∀y,y<r->aj (n+m) (F y)<n)(low:∀i c,r<=i->i<m->c<n->F i c=0)(hv:Sp (n+m) m F v)(hz:∀c,c<n->v c=0):Sp m s (fun y j=>F (r+y) (n+j)) (fun j=>v (n+j)):=by
 obtain⟨y,hy⟩:=hv;have z:∀i,i<r->y i=0:=by
  intro i
  induction i using Nat.strongRecOn with
  |_ i ih=>
  intro hi;have p1:=lead i hi;have h1:=hy (aj (n+m) (F i)) om;rw[hz _ p1,Jn (i:=i) m om (fun k hk=>by rw[ih k hk om];omega) (fun k h1 h2=>by
   by_cases c:k<r
   ·rw[bB (w:=n+m) (v:=F k) (top.inc i k h1 c)];omega
   ·rw[low k _ om h2 p1];omega)]at h1
  have h2:=top.pos i hi;rcases Int.mul_eq_zero.1 h1.symm with q|q
  ·exact q
  ·omega
 refine⟨fun i=>y (r+i),fun j hj=>?_⟩;have h1:=hy (n+j) om;rw[<-hs,zo]at h1;rw[aQ (g:=fun _=>0) r (fun i hi=>by rw[z i hi];omega),qS,Int.zero_add]at h1;exact h1
end Ext
set_option maxRecDepth 100000
theorem IE{α β:Type}(G:α->List β)(B:Nat)(h:∀x,(G x).length<=B):∀l:List α,(l.flatMap G).length<=l.length*B
 | []=>by simp
 |x :: l=>by
  have:=IE G B h l;have:=h x;rw[List.flatMap_cons,List.length_append,List.length_cons,Nat.add_mul];omega
theorem oX.uniq{g:List (List Int)}{m n m' n':Nat}(a:oX g m n)(b:oX g m' n'):m=m'/\n=n':=by
 have h1:=a.len;have h2:=b.len;have h3:=a.row 0 om (by have:=a.m1;omega);have h4:=b.row 0 om (by have:=b.m1;omega);omega
theorem nM(f:Nat->Nat->Int)(m:Nat):∀n,Ext.aV (fun i=>Ext.aV (fun j=>f i j) m) n=Ext.aV (fun j=>Ext.aV (fun i=>f i j) n) m
 |0=>by
  show(0:Int)=Ext.aV (fun j=>0) m;rw[Ext.qS]
 |n+1=>by
  show Ext.aV (fun i=>Ext.aV (fun j=>f i j) m) n+Ext.aV (fun j=>f n j) m=Ext.aV (fun j=>Ext.aV (fun i=>f i j) n+f n j) m;rw[nM f m n,Ext.tv]
theorem jk(c:Int)(f:Nat->Int)(n:Nat):Ext.aV (fun k=>f k*c) n=Ext.aV f n*c:=by
 rw[Int.mul_comm,<-Ext.jw];exact Ext.aQ n (fun k _=>Int.mul_comm _ _)
theorem G3{g:List (List Int)}{n i j:Nat}(h:j<n):gU g n i j=Ext.el g i j:=by unfold gU;rw[if_pos h];rfl
theorem G4{g:List (List Int)}{n i j:Nat}:gU g n i (n+j)=if j=i then 1 else 0:=by
 unfold gU;rw[if_neg om];by_cases c:j=i
 ·rw[if_pos c,if_pos om]
 ·rw[if_neg c,if_neg om]
theorem Bk{g:List (List Int)}{n m:Nat}{y:Nat->Int}{j:Nat}(hj:j<m):Ext.aV (fun i=>y i*gU g n i (n+j)) m=y j:=by
 rw[Ext.pU m hj (fun k _ ne=>by rw[G4,if_neg om,Int.mul_zero])];simp only[G4,if_true,Int.mul_one]
theorem bL.tail{g:List (List Int)}{m n r s:Nat}{A:Nat->Ext.aR}(a:bL g m n r s A){i:Nat}(hi:i<m){j:Nat}(hj:j<n):A i j=Ext.aV (fun t=>A i (n+t)*Ext.el g t j) m:=by
 obtain⟨y,hy⟩:=a.C2.le i hi;have ht:∀t,t<m->A i (n+t)=y t:=fun t ht=>by rw[hy (n+t) om,Bk ht]
 rw[hy j om];exact Ext.aQ m (fun t h=>by rw[ht t h,G3 hj])
def NP(g:List (List Int))(m n:Nat)(u:Nat->Int):Prop:=∀j,j<n->Ext.aV (fun i=>u i*Ext.el g i j) m=0
theorem bL.rel{g:List (List Int)}{m n r s:Nat}{A:Nat->Ext.aR}(a:bL g m n r s A){i:Nat}(hi:i<s):NP g m n (fun j=>A (r+i) (n+j)):=fun j hj=>by
 have hs:=a.sum;rw[<-a.tail (i:=r+i) om hj];exact Ext.bB (w:=n+m) (by have:=a.hi (r+i) om om;omega)
theorem bL.aal{g:List (List Int)}{m n r s:Nat}{A:Nat->Ext.aR}(a:bL g m n r s A){u:Nat->Int}(hu:NP g m n u):∃y:Nat->Int,∀j,j<m->u j=Ext.aV (fun i=>y i*A (r+i) (n+j)) s:=by
 have hs:=a.sum;have hv:Ext.Sp (n+m) m A (fun c=>Ext.aV (fun i=>u i*gU g n i c) m):=Ext.Sp.le a.C2.ge ⟨u,fun j hj=>rfl⟩;have:=Ext.Sp.rest hs ⟨fun i hi=>a.PV.lt i om,fun i hi=>a.PV.pos i om,fun i j hi hj=>a.PV.inc i j hi om⟩ a.lo (fun i c h1 h2 h3=>Ext.bB (w:=n+m) (by have:=a.hi i h1 h2;omega)) hv (fun c hc=>by
  have:=hu c hc;rw[<-this];exact Ext.aQ m (fun k _=>by rw[G3 hc]))
 obtain⟨y,hy⟩:=this;refine⟨y,fun j hj=>?_⟩;rw[<-hy j hj];exact(Bk hj).symm
def rE(B:List Fc)(W:Int)(i:Nat):Int:=(gt B (i:Int)).n*(W / (gt B (i:Int)).d)
def rY(g:List (List Int))(B:List Fc)(m n:Nat):Prop:=∀W,wk B m W->∀u,NP g m n u->Ext.aV (fun i=>u i*rE B W i) m % W=0
theorem bL.holds{g:List (List Int)}{m n r s:Nat}{A:Nat->Ext.aR}(a:bL g m n r s A){B:List Fc}(ht:∀i:Int,0<=i->i<m->cH (gt B i)/\(gt B i).d<=60){W:Int}(w:wk B m W):(∀i,i<s->Ext.aV (fun j=>A (r+i) (n+j)*rE B W j) m % W=0)↔rY g B m n:=by
 constructor
 ·intro h W' w' u hu
  obtain⟨y,hy⟩:=a.aal hu;have wp:=w.pos;have wp':=w'.pos;have h1:W∣Ext.aV (fun i=>u i*rE B W i) m:=by
   have e:Ext.aV (fun i=>u i*rE B W i) m=Ext.aV (fun i=>y i*Ext.aV (fun j=>A (r+i) (n+j)*rE B W j) m) s:=by
    rw[Ext.aQ m (g:=fun j=>Ext.aV (fun i=>y i*(A (r+i) (n+j)*rE B W j)) s) (fun j hj=>by
     rw[hy j hj,<-jk];exact Ext.aQ s (fun i _=>by rw[Int.mul_assoc])),<-nM]
    exact Ext.aQ s (fun i _=>by rw[Ext.jw])
   rw[e];exact Ext.re s (fun i hi=>Int.dvd_mul_of_dvd_right (Int.dvd_of_emod_eq_zero (h i hi)))
  have e2:Ext.aV (fun i=>u i*rE B W' i) m*W=Ext.aV (fun i=>u i*rE B W i) m*W':=by
   rw[<-jk,<-jk];refine Ext.aQ m (fun i hi=>?_);have q1:=(w.part ht hi).1;have q2:=(w'.part ht hi).1;have q3:=q1.uniq q2;have q4:=(NN (show W≠0 by omega) (show W'≠0 by omega)).1 q3;show u i*rE B W' i*W=u i*rE B W i*W';have q5:rE B W i*W'=rE B W' i*W:=q4;rw[Int.mul_assoc,<-q5,Int.mul_assoc]
  obtain⟨c,hc⟩:=h1;rw[hc]at e2;have:Ext.aV (fun i=>u i*rE B W' i) m=W'*c:=by
   have e3:W*(Ext.aV (fun i=>u i*rE B W' i) m)=W*(W'*c):=by
    rw[Int.mul_comm,e2,Int.mul_assoc,Int.mul_comm c W']
   exact Int.eq_of_mul_eq_mul_left om e3
  rw[this];exact Int.mul_emod_right W' c
 ·intro h i hi
  exact h W w _ (a.rel hi)
theorem bL.small{g:List (List Int)}{m n r s:Nat}{A:Nat->Ext.aR}(hM:oX g m n)(a:bL g m n r s A){i:Nat}(hi:i<m)(j:Nat):(A i j).natAbs<=629856:=
 a.PV.small a.C2 (fun i hi j=>by
  unfold gU;split
  ·exact hM.nine _ _
  ·split<;>decide) hM.m4 hi j
end Go.Proofs.YtdpbiegfljmhmaaGreat
namespace Go.Proofs.YtdpbiegfljmhmaaGreat.Ext
theorem EW{f g:Nat->Int}{k:Nat}:∀(n:Nat),k<n->(∀j,j<n->j≠k->f j=g j)->aV f n=aV g n+(f k-g k)
 |0,h,_=>om
 |n+1,h,e=>by
  show aV f n+f n=aV g n+g n+(f k-g k);by_cases c:k=n
  ·subst c
   rw[aQ k (fun j hj=>e j om om)];omega
  ·rw[EW n om (fun j hj ne=>e j om ne),e n om om]
   omega
theorem m7(x:List Int){k:Nat}(v:Int)(hk:k<x.length)(j:Nat):gt (x.set k v) (j:Int)=if j=k then v else gt x (j:Int):=by
 unfold gt;rw[List.getD_eq_getElem?_getD,List.getD_eq_getElem?_getD,show((j:Int)).toNat=j from rfl,List.getElem?_set];by_cases c:k=j
 ·subst c;simp[hk]
 ·rw[if_neg c,if_neg (fun q=>c q.symm)]
theorem zr{x y:List Int}{n:Nat}(hx:x.length=n)(hy:y.length=n)(h:∀j:Nat,j<n->gt x (j:Int)=gt y (j:Int)):x=y:=by
 apply List.ext_getElem?;intro j;by_cases c:j<n
 ·have:=h j c
  unfold gt at this;rw[List.getD_eq_getElem?_getD,List.getD_eq_getElem?_getD,show((j:Int)).toNat=j from rfl,List.getElem?_eq_getElem om,List.getElem?_eq_getElem om]at this;rw[List.getElem?_eq_getElem om,List.getElem?_eq_getElem om];exact congrArg some this
 ·rw[List.getElem?_eq_none om,List.getElem?_eq_none om]
def Mk(A:Nat->Nat->Int):Nat->Int
 |0=>1
 |k+1=>Mk A k*A k k
structure Aw(A:Nat->Nat->Int)(R:Nat->Int)(size:Int)(n:Nat):Prop where
 up:∀i j,i<n->j<i->A i j=0
 pos:∀i,i<n->0<A i i
 szp:0<size
 szd:Mk A n∣size
 rd:∀k,k<n->Mk A n∣R k
theorem Aw.NQ{A:Nat->Nat->Int}{R:Nat->Int}{size:Int}{n:Nat}(t:Aw A R size n){k:Nat}:∀d,k+d<=n->Mk A k∣Mk A (k+d)
 |0,_=>Int.dvd_refl _
 |d+1,h=>Int.dvd_trans (t.NQ d om) ⟨A (k+d) (k+d),rfl⟩
theorem Aw.mk_le{A:Nat->Nat->Int}{R:Nat->Int}{size:Int}{n:Nat}(t:Aw A R size n){k:Nat}(h:k<=n):Mk A k∣Mk A n:=by
 have:=t.NQ (k:=k) (n-k) om
 rwa [show k+(n-k)=n by omega]at this
def iG(A:Nat->Nat->Int)(n i:Nat)(x:List Int):Int:=aV (fun j=>A i j*gt x (j:Int)) n
def nN(A:Nat->Nat->Int)(R:Nat->Int)(size:Int)(n k:Nat)(x:List Int):Int:=(R k-iG A n k x) % size
def jF(A:Nat->Nat->Int)(R:Nat->Int)(size:Int)(n k:Nat)(x:List Int)(t:Nat):List Int:=x.set k (nN A R size n k x / A k k+t*(size / A k k))
def iz(A:Nat->Nat->Int)(R:Nat->Int)(size:Int)(n k:Nat)(l:List (List Int)):List (List Int):=l.flatMap (fun x=>(List.range (A k k).toNat).map (jF A R size n k x))
def nO(A:Nat->Nat->Int)(R:Nat->Int)(size:Int)(n:Nat):Nat->List (List Int)
 |0=>[List.replicate n 0]
 |d+1=>iz A R size n (n-1-d) (nO A R size n d)
structure CD(A:Nat->Nat->Int)(R:Nat->Int)(size:Int)(n k:Nat)(x:List Int):Prop where
 len:x.length=n
 zero:∀j:Nat,j<k->gt x (j:Int)=0
 uO:∀j:Nat,k<=j->j<n->0<=gt x (j:Int)/\gt x (j:Int)<size
 eqs:∀i,k<=i->i<n->(R i-iG A n i x) % size=0
section
variable{A:Nat->Nat->Int}{R:Nat->Int}{size:Int}{n k:Nat}
theorem EX(x:List Int)(v:Int)(hx:x.length=n)(hk:k<n)(hz:gt x (k:Int)=0)(i:Nat):iG A n i (x.set k v)=iG A n i x+A i k*v:=by
 unfold iG;rw[EW (f:=fun j=>A i j*gt (x.set k v) (j:Int)) (g:=fun j=>A i j*gt x (j:Int)) n hk (fun j hj ne=>by rw[m7 x v om,if_neg ne])];show _+(A i k*gt (x.set k v) (k:Int)-A i k*gt x (k:Int))=_;rw[m7 x v om,if_pos rfl,hz,Int.mul_zero,Int.sub_zero]
theorem tW(t:Aw A R size n)(hk:k<n){x:List Int}(hd:∀j:Nat,j<n->Mk A (k+1)∣gt x (j:Int)):∃q z,nN A R size n k x=A k k*q/\size=A k k*z/\nN A R size n k x / A k k=q/\size / A k k=z/\0<=q/\q<z/\Mk A k∣q/\Mk A k∣z:=by
 have ap:=t.pos k hk;have d1:Mk A (k+1)∣size:=Int.dvd_trans (t.mk_le om) t.szd;have d2:Mk A (k+1)∣R k-iG A n k x:=Int.dvd_sub (Int.dvd_trans (t.mk_le om) (t.rd k hk)) (re n (fun j hj=>Int.dvd_mul_of_dvd_right (hd j hj)));have d3:Mk A (k+1)∣nN A R size n k x:=by
  unfold nN;rw[Int.emod_def];exact Int.dvd_sub d2 (Int.dvd_mul_of_dvd_left d1)
 obtain⟨c1,e1⟩:=d1;obtain⟨c3,e3⟩:=d3;have Pd:size=A k k*(Mk A k*c1):=by rw[e1];show Mk A k*A k k*c1=_;rw[Int.mul_comm (Mk A k),Int.mul_assoc]
 have OS:nN A R size n k x=A k k*(Mk A k*c3):=by rw[e3];show Mk A k*A k k*c3=_;rw[Int.mul_comm (Mk A k),Int.mul_assoc]
 have l0:0<=nN A R size n k x:=Int.emod_nonneg _ (by have:=t.szp;omega);have l1:nN A R size n k x<size:=Int.emod_lt_of_pos _ t.szp;refine⟨Mk A k*c3,Mk A k*c1,OS,Pd,by rw[OS];exact Int.mul_ediv_cancel_left _ om,by rw[Pd];exact Int.mul_ediv_cancel_left _ om,?_,?_,⟨c3,rfl⟩,⟨c1,rfl⟩⟩
 ·rw[OS]at l0
  exact Int.nonneg_of_mul_nonneg_right l0 ap
 ·have l1':A k k*(Mk A k*c3)<A k k*(Mk A k*c1):=by rw[<-OS,<-Pd];exact l1
  exact Int.lt_of_mul_lt_mul_left l1' (Int.le_of_lt ap)
theorem Qq(t:Aw A R size n)(hk:k<n){l:List (List Int)}(h1:∀x,x∈l↔CD A R size n (k+1) x)(h2:∀x,x∈l->∀j:Nat,j<n->Mk A (k+1)∣gt x (j:Int)) :
  (∀x,x∈iz A R size n k l↔CD A R size n k x)/\∀x,x∈iz A R size n k l->∀j:Nat,j<n->Mk A k∣gt x (j:Int):=by
 have ap:=t.pos k hk;have mem:∀y,y∈iz A R size n k l↔∃x,x∈l/\∃c:Nat,(c:Int)<A k k/\jF A R size n k x c=y:=fun y=>by
  unfold iz;simp only[List.mem_flatMap,List.mem_map,List.mem_range];constructor
  ·rintro⟨x,hx,c,hc,e⟩;exact⟨x,hx,c,om,e⟩
  ·rintro⟨x,hx,c,hc,e⟩;exact⟨x,hx,c,om,e⟩
 constructor
 ·intro y
  rw[mem y];constructor
  ·rintro⟨x,hx,c,hc,rfl⟩
   have sx:=(h1 x).1 hx;obtain⟨q,z,e1,e2,e3,e4,q0,qz,_,_⟩:=tW t hk (h2 x hx);have lx:=sx.len;have hz:=sx.zero k om;unfold jF;rw[e3,e4];have cz:(c:Int)*z<=(A k k-1)*z:=Int.mul_le_mul_of_nonneg_right om om;have cz0:0<=(c:Int)*z:=Int.mul_nonneg om om;rw[Int.sub_mul,Int.one_mul,<-e2]at cz;refine⟨by rw[List.length_set];exact lx,fun j hj=>?_,fun j j0 j1=>?_,fun i i0 i1=>?_⟩
   ·rw[m7 x _ om,if_neg om];exact sx.zero j om
   ·rw[m7 x _ om]
    by_cases e:j=k
    ·rw[if_pos e];omega
    ·rw[if_neg e];exact sx.uO j om j1
   ·rw[EX x _ lx hk hz i]
    by_cases e:i=k
    ·subst e
     have e5:nN A R size n i x=(R i-iG A n i x) % size:=rfl;have e6:=Int.emod_add_mul_ediv (R i-iG A n i x) size;rw[<-e5,e1]at e6;have e7:R i-(iG A n i x+A i i*(q+c*z))=size*((R i-iG A n i x) / size)-size*c:=by
      rw[Int.mul_add];have:A i i*(c*z)=size*c:=by rw[e2,Int.mul_assoc,Int.mul_comm z]
      omega
     rw[e7,<-Int.mul_sub];exact Int.mul_emod_right _ _
    ·rw[t.up i k i1 om,Int.zero_mul,Int.add_zero]
     exact sx.eqs i om i1
  ·intro sy
   have ly:=sy.len;obtain⟨x,ex⟩:∃x,x=y.set k 0:=⟨_,rfl⟩;have lx:x.length=n:=by rw[ex,List.length_set];exact ly
   have gx:∀j:Nat,gt x (j:Int)=if j=k then 0 else gt y (j:Int):=fun j=>by rw[ex,m7 y 0 om]
   have hz:gt x (k:Int)=0:=by rw[gx,if_pos rfl]
   have ey:y=x.set k (gt y (k:Int)):=zr ly (by rw[List.length_set];exact lx) (fun j hj=>by
    rw[m7 x _ om,gx];by_cases e:j=k
    ·rw[if_pos e,e]
    ·rw[if_neg e,if_neg e])
   have W3:∀i,iG A n i y=iG A n i x+A i k*gt y (k:Int):=fun i=>by
    exact(congrArg (iG A n i) ey).trans (EX x (gt y (k:Int)) lx hk hz i)
   have sx:CD A R size n (k+1) x:=by
    refine⟨lx,fun j hj=>?_,fun j j0 j1=>?_,fun i i0 i1=>?_⟩
    ·rw[gx]
     by_cases e:j=k
     ·rw[if_pos e]
     ·rw[if_neg e];exact sy.zero j om
    ·rw[gx,if_neg om];exact sy.uO j om j1
    ·have:=sy.eqs i om i1
     rw[W3 i,t.up i k i1 om,Int.zero_mul,Int.add_zero]at this;exact this
   have hx:=(h1 x).2 sx;obtain⟨q,z,e1,e2,e3,e4,q0,qz,_,_⟩:=tW t hk (h2 x hx);obtain⟨y0,y1⟩:=sy.uO k (Nat.le_refl k) hk;obtain⟨v,ev⟩:∃v,v=gt y (k:Int):=⟨_,rfl⟩;have heq:=sy.eqs k (Nat.le_refl k) hk;rw[W3 k,<-ev]at heq;rw[<-ev]at y0 y1 ey;obtain⟨c,hc⟩:∃c,v=q+c*z:=by
    have e6:=Int.emod_add_mul_ediv (R k-iG A n k x) size;have e5:nN A R size n k x=(R k-iG A n k x) % size:=rfl;rw[<-e5,e1]at e6;obtain⟨w,hw⟩:=Int.dvd_of_emod_eq_zero heq;refine⟨(R k-iG A n k x) / size-w,Int.eq_of_mul_eq_mul_left (show A k k≠0 by omega) ?_⟩;rw[Int.mul_add,Int.sub_mul,Int.mul_sub];have r1:A k k*((R k-iG A n k x) / size*z)=size*((R k-iG A n k x) / size):=by
     rw[Int.mul_comm ((R k-iG A n k x) / size),<-Int.mul_assoc,<-e2]
    have r2:A k k*(w*z)=size*w:=by rw[Int.mul_comm w,<-Int.mul_assoc,<-e2]
    rw[r1,r2];omega
   have c0:0<=c:=by
    refine Classical.byContradiction fun w=>?_
    have:=Int.mul_le_mul_of_nonneg_right (show c<=-1 by omega) (show 0<=z by omega);omega
   have c1:c<A k k:=by
    refine Classical.byContradiction fun w=>?_
    have:=Int.mul_le_mul_of_nonneg_right (show A k k<=c by omega) (show 0<=z by omega);rw[<-e2]at this;omega
   refine⟨x,hx,c.toNat,om,?_⟩;unfold jF;rw[e3,e4,show((c.toNat:Nat):Int)=c by omega,<-hc];exact ey.symm
 ·intro y hy j hj
  obtain⟨x,hx,c,hc,rfl⟩:=(mem y).1 hy;obtain⟨q,z,e1,e2,e3,e4,q0,qz,dq,dz⟩:=tW t hk (h2 x hx);unfold jF;rw[e3,e4,m7 x _ (by have:=((h1 x).1 hx).len;omega)];by_cases e:j=k
  ·rw[if_pos e]
   exact Int.dvd_add dq (Int.dvd_mul_of_dvd_right dz)
  ·rw[if_neg e]
   exact Int.dvd_trans ⟨A k k,rfl⟩ (h2 x hx j hj)
theorem G5(t:Aw A R size n)(hk:k<n):∀{l:List (List Int)},(∀x,x∈l->CD A R size n (k+1) x)->(∀x,x∈l->∀j:Nat,j<n->Mk A (k+1)∣gt x (j:Int))->l.Nodup->(iz A R size n k l).Nodup/\((iz A R size n k l).length:Int)=l.length*A k k:=by
 have ap:=t.pos k hk;intro l
 induction l with
 |nil=>intro _ _ _;exact⟨List.nodup_nil,by simp[iz]⟩
 |cons x l ih=>
  intro h1 h2 hn;obtain⟨i1,i2⟩:=ih (fun y hy=>h1 y (List.mem_cons_of_mem _ hy)) (fun y hy=>h2 y (List.mem_cons_of_mem _ hy)) (List.nodup_cons.1 hn).2;have sx:=h1 x (List.mem_cons_self ..);obtain⟨q,z,e1,e2,e3,e4,q0,qz,_,_⟩:=tW t hk (h2 x (List.mem_cons_self ..));have back:∀y,CD A R size n (k+1) y->∀v:Int,(y.set k v).set k 0=y:=fun y sy v=>by
   rw[List.set_set];exact zr (by rw[List.length_set];exact sy.len) sy.len (fun j hj=>by
    rw[m7 y 0 (by have:=sy.len;omega)];by_cases e:j=k
    ·rw[if_pos e,e,sy.zero k om]
    ·rw[if_neg e])
  have hd:iz A R size n k (x :: l)=(List.range (A k k).toNat).map (jF A R size n k x)++iz A R size n k l:=by unfold iz;rw[List.flatMap_cons]
  rw[hd];constructor
  ·rw[List.nodup_append]
   refine⟨?_,i1,fun a ha b hb e=>?_⟩
   ·refine List.Pairwise.map _ (fun c d ne e=>?_) List.nodup_range
    apply ne;have g1:gt (jF A R size n k x c) (k:Int)=gt (jF A R size n k x d) (k:Int):=by rw[e]
    unfold jF at g1;rw[m7 x _ (by have:=sx.len;omega),m7 x _ (by have:=sx.len;omega),if_pos rfl,if_pos rfl,e3,e4]at g1;have:(c:Int)*z=d*z:=om
    have:=Int.eq_of_mul_eq_mul_right (show z≠0 by omega) this;omega
   ·obtain⟨c,_,rfl⟩:=List.mem_map.1 ha
    unfold iz at hb;obtain⟨y,hy,hb⟩:=List.mem_flatMap.1 hb;obtain⟨d,_,rfl⟩:=List.mem_map.1 hb;have:=congrArg (fun w=>w.set k 0) e;simp only[jF]at this;rw[back x sx,back y (h1 y (List.mem_cons_of_mem _ hy))]at this;exact(List.nodup_cons.1 hn).1 (this ▸ hy)
  ·rw[List.length_append,List.length_map,List.length_range,List.length_cons]
   push_cast
   rw[i2,Int.add_mul,Int.one_mul,Int.toNat_of_nonneg om];omega
theorem u9(t:Aw A R size n):∀d,d<=n->(∀x,x∈nO A R size n d↔CD A R size n (n-d) x)/\(∀x,x∈nO A R size n d->∀j:Nat,j<n->Mk A (n-d)∣gt x (j:Int))/\(nO A R size n d).Nodup/\((nO A R size n d).length:Int)*Mk A (n-d)=Mk A n
 |0,_=>by
  have gz:∀j:Nat,gt (List.replicate n (0:Int)) (j:Int)=0:=fun j=>by
   unfold gt;rw[List.getD_eq_getElem?_getD,show((j:Int)).toNat=j from rfl,List.getElem?_replicate];split<;>rfl
  refine⟨fun x=>?_,fun x hx j hj=>?_,by simp[nO],by simp[nO]⟩
  ·show x∈[List.replicate n 0]↔_
   rw[List.mem_singleton];constructor
   ·rintro rfl
    exact⟨List.length_replicate,fun j _=>gz j,fun j j0 j1=>om,fun i i0 i1=>om⟩
   ·intro s
    exact zr s.len List.length_replicate (fun j hj=>by rw[gz,s.zero j om])
  ·rw[List.mem_singleton.1 (show x∈[List.replicate n 0]from hx),gz]
   exact Int.dvd_zero _
 |d+1,h=>by
  obtain⟨i1,i2,i3,i4⟩:=u9 t d om;have e:n-d=n-1-d+1:=om
  rw[e]at i1 i2 i4;obtain⟨a1,a2⟩:=Qq t (k:=n-1-d) om i1 i2;obtain⟨b1,b2⟩:=G5 t (k:=n-1-d) om (fun x hx=>(i1 x).1 hx) i2 i3;have e2:n-(d+1)=n-1-d:=om
  rw[e2];refine⟨a1,a2,b1,?_⟩;show((iz A R size n (n-1-d) (nO A R size n d)).length:Int)*Mk A (n-1-d)=_;rw[b2,<-i4];show _=(nO A R size n d).length*(Mk A (n-1-d)*A (n-1-d) (n-1-d));rw[Int.mul_assoc,Int.mul_comm (A _ _)]
end
end Go.Proofs.YtdpbiegfljmhmaaGreat.Ext
namespace Go.Proofs.YtdpbiegfljmhmaaGreat
open Go.cV
set_option maxRecDepth 100000
theorem wk.gF{B:List Fc}{k:Nat}{W:Int}(w:wk B k W)(k4:k<=4):W<=12960000:=by
 have h:=w.le;have:(60:Nat) ^ k<=60 ^ 4:=Nat.pow_le_pow_right om k4;omega
theorem CE{B:List Fc}{W:Int}{k i:Nat}(h:i<k):gt (Av B W k) (i:Int)=rE B W i:=Qp h
theorem IF{a p W:Int}(ha:a.natAbs<=629856)(p0:0<=p)(p1:p<W)(hW:W<=12960000):(a*p).natAbs<=8162933760000:=by
 have:=Ext.jW ha (show p.natAbs<=12960000 by omega);omega
theorem bL.wQ{g:List (List Int)}{m n s:Nat}{A:Nat->Ext.aR}(a:bL g m n n s A){i:Nat}(hi:i<n):Ext.aj (n+m) (A i)=i:=by
 have e:=a.ZU;have h1:i<=Ext.aj (n+m) (A i):=Ext.tG (k:=n) (r:=fun i=>Ext.aj (n+m) (A i)) (fun i hi=>e.inc i (i+1) om hi) i hi;have up:∀t,i+t<n->Ext.aj (n+m) (A i)+t<=Ext.aj (n+m) (A (i+t)):=by
  intro t
  induction t with
  |zero=>intro _;exact Nat.le_refl _
  |succ t ih=>
   intro ht;have h2:=ih om;have h3:Ext.aj (n+m) (A (i+t))<Ext.aj (n+m) (A (i+(t+1))):=e.inc (i+t) (i+(t+1)) om om;omega
 have h3:=up (n-1-i) om;have h4:Ext.aj (n+m) (A (i+(n-1-i)))<n:=e.lt (i+(n-1-i)) om;omega
def jU(A:Nat->Ext.aR)(B:List Fc)(W:Int)(m n k:Nat):Int:=Ext.aV (fun t=>A k (n+t)*rE B W t) m
def gG(A:Nat->Ext.aR)(B:List Fc)(W:Int)(m n:Nat)(k:Nat):Int:=jU A B W m n k % W*Ext.Mk A n
theorem qG{A:Nat->Nat->Int}:∀n,(∀i,i<n->0<A i i)->0<Ext.Mk A n
 |0,_=>by show(0:Int)<1;decide
 |n+1,h=>Int.mul_pos (qG n (fun i hi=>h i om)) (h n om)
theorem bL.diag{g:List (List Int)}{m n s:Nat}{A:Nat->Ext.aR}(a:bL g m n n s A){i:Nat}(hi:i<n):0<A i i:=by
 have:=a.PV.pos i (by have:=a.sum;omega);rw[a.wQ hi]at this;exact this
theorem bL.Kn{g:List (List Int)}{m n s:Nat}{A:Nat->Ext.aR}(a:bL g m n n s A){B:List Fc}{W:Int}(hW:0<W):Ext.Aw A (gG A B W m n) (W*Ext.Mk A n) n:=by
 have dp:∀i,i<n->0<A i i:=fun i hi=>a.diag hi
 refine⟨fun i j hi hj=>Ext.bB (w:=n+m) (by rw[a.wQ hi];exact hj),dp,Int.mul_pos hW (qG n dp),Int.dvd_mul_left ..,fun k hk=>Int.dvd_mul_left ..⟩
structure NR(g:List (List Int))(P:Nat->Int)(m n:Nat)(many size:Int)(x:List Int):Prop where
 len:x.length=n
 uO:∀j:Nat,j<n->0<=gt x (j:Int)/\gt x (j:Int)<size
 eqs:∀i,i<m->size∣P i*many-Ext.aV (fun j=>Ext.el g i j*gt x (j:Int)) n
theorem tX(f g:Nat->Int)(n:Nat):Ext.aV (fun k=>f k-g k) n=Ext.aV f n-Ext.aV g n:=by
 have h:=Ext.tv (fun k=>f k-g k) g n;rw[Ext.aQ n (g:=f) (fun k _=>om)]at h;omega
theorem bL.aam{g:List (List Int)}{m n s:Nat}{A:Nat->Ext.aR}(a:bL g m n n s A){B:List Fc}{W:Int}(w:wk B m W)(hR:rY g B m n)(x:List Int):Ext.CD A (gG A B W m n) (W*Ext.Mk A n) n 0 x↔NR g (rE B W) m n (Ext.Mk A n) (W*Ext.Mk A n) x:=by
 have hs:=a.sum;obtain⟨many,eM⟩:∃z,z=Ext.Mk A n:=⟨_,rfl⟩;have row:∀k,k<n->((gG A B W m n k-Ext.iG A n k x) % (W*many)=0↔W*many∣jU A B W m n k*many-Ext.iG A n k x):=fun k hk=>by
  have e:jU A B W m n k*many-Ext.iG A n k x=(gG A B W m n k-Ext.iG A n k x)+W*many*(jU A B W m n k / W):=by
   unfold gG;rw[<-eM];have h1:=Int.emod_add_mul_ediv (jU A B W m n k) W;have h2:jU A B W m n k*many=(jU A B W m n k % W+W*(jU A B W m n k / W))*many:=by rw[h1]
   rw[h2,Int.add_mul,Int.mul_assoc W,Int.mul_comm (jU A B W m n k / W),<-Int.mul_assoc W];omega
  rw[e];constructor
  ·intro h
   exact Int.dvd_add (Int.dvd_of_emod_eq_zero h) (Int.dvd_mul_right _ _)
  ·intro h
   have:=Int.dvd_sub h (Int.dvd_mul_right (W*many) (jU A B W m n k / W));rw[Int.add_sub_cancel]at this;exact Int.emod_eq_zero_of_dvd this
 rw[<-eM];constructor
 ·intro sx
  refine⟨sx.len,fun j hj=>sx.uO j (Nat.zero_le j) hj,fun i hi=>?_⟩;obtain⟨c,hc⟩:=a.C2.ge i hi;have hel:∀j,j<n->Ext.el g i j=Ext.aV (fun k=>c k*A k j) m:=fun j hj=>by rw[<-G3 hj];exact hc j om
  have hdl:∀t,t<m->(if t=i then(1:Int)else 0)=Ext.aV (fun k=>c k*A k (n+t)) m:=fun t ht=>by rw[<-G4 (g:=g) (n:=n)];exact hc (n+t) om
  have e1:rE B W i=Ext.aV (fun k=>c k*jU A B W m n k) m:=by
   have h1:rE B W i=Ext.aV (fun t=>(if t=i then(1:Int)else 0)*rE B W t) m:=by
    rw[Ext.pU m hi (fun k _ ne=>by rw[if_neg ne,Int.zero_mul])];simp
   rw[h1,Ext.aQ m (g:=fun t=>Ext.aV (fun k=>c k*(A k (n+t)*rE B W t)) m) (fun t ht=>by
    rw[hdl t ht,<-jk];exact Ext.aQ m (fun k _=>by rw[Int.mul_assoc])),<-nM]
   exact Ext.aQ m (fun k _=>by unfold jU;rw[Ext.jw])
  have e2:Ext.aV (fun j=>Ext.el g i j*gt x (j:Int)) n=Ext.aV (fun k=>c k*Ext.iG A n k x) m:=by
   rw[Ext.aQ n (g:=fun j=>Ext.aV (fun k=>c k*(A k j*gt x (j:Int))) m) (fun j hj=>by
    rw[hel j hj,<-jk];exact Ext.aQ m (fun k _=>by rw[Int.mul_assoc])),<-nM]
   exact Ext.aQ m (fun k _=>by unfold Ext.iG;rw[Ext.jw])
  have e3:rE B W i*many-Ext.aV (fun j=>Ext.el g i j*gt x (j:Int)) n=Ext.aV (fun k=>c k*(jU A B W m n k*many-Ext.iG A n k x)) m:=by
   rw[e1,e2,<-jk,<-tX];exact Ext.aQ m (fun k _=>by rw[Int.mul_sub,Int.mul_assoc])
  rw[e3];refine Ext.re m (fun k hk=>Int.dvd_mul_of_dvd_right ?_);by_cases ck:k<n
  ·exact(row k ck).1 (sx.eqs k (Nat.zero_le k) ck)
  ·have z1:Ext.iG A n k x=0:=by
    unfold Ext.iG;rw[Ext.aQ n (g:=fun _=>0) (fun j hj=>by
     rw[Ext.bB (w:=n+m) (v:=A k) (j:=j) (by have:=a.hi k om hk;omega),Int.zero_mul]),Ext.qS]
   have z2:W∣jU A B W m n k:=by
    have:=hR W w _ (a.rel (i:=k-n) om);rw[show n+(k-n)=k by omega]at this;exact Int.dvd_of_emod_eq_zero this
   rw[z1,Int.sub_zero];exact Int.mul_dvd_mul z2 (Int.dvd_refl many)
 ·intro sx
  refine⟨sx.len,fun j hj=>om,fun j _ hj=>sx.uO j hj,fun k _ hk=>?_⟩;refine(row k hk).2 ?_;have e3:jU A B W m n k*many-Ext.iG A n k x=Ext.aV (fun t=>A k (n+t)*(rE B W t*many-Ext.aV (fun j=>Ext.el g t j*gt x (j:Int)) n)) m:=by
   have e1:Ext.iG A n k x=Ext.aV (fun t=>A k (n+t)*Ext.aV (fun j=>Ext.el g t j*gt x (j:Int)) n) m:=by
    unfold Ext.iG;rw[Ext.aQ n (g:=fun j=>Ext.aV (fun t=>A k (n+t)*(Ext.el g t j*gt x (j:Int))) m) (fun j hj=>by
     rw[a.tail (i:=k) om hj,<-jk];exact Ext.aQ m (fun t _=>by rw[Int.mul_assoc])),<-nM]
    exact Ext.aQ m (fun t _=>by rw[Ext.jw])
   unfold jU;rw[e1,<-jk,<-tX];exact Ext.aQ m (fun t _=>by rw[Int.mul_sub,Int.mul_assoc])
  rw[e3];exact Ext.re m (fun t ht=>Int.dvd_mul_of_dvd_right (sx.eqs t ht))
variable{F:bg}{call head arith a0 b0 fD d0 f0 k0 o0 r0 ofNat s0 place u0 nz v0 rd wr w0 next x0 z0 o1 s1 u1 v1 f2 g2 j2 part l2 o2 putAt fresh aB aH wrote bZ lt ne p2 s2 v2 yn uO f3 g3 j3 k3 l3:_}(hA:AP F ⟨call,head,arith,a0,b0,fD,d0,f0,k0,o0,r0,ofNat,s0,place,u0,nz,v0,rd,wr,w0,next,x0,z0,o1,s1,u1,v1,f2,g2,j2,part,l2,o2,putAt,fresh,aB,aH,wrote,bZ,lt,ne,p2,s2,v2,yn,uO,f3,g3,j3,k3,l3⟩)
include hA
theorem Qr{h:af}(ar:h.low<=h.next){n d:Int}(hn:i64 n)(n0:-9223372036854775808<n)(hd:0<d){Q:Value->af->Prop}(hQ:Q (.int .i64 (n / d)) h):call 63 [.int .i64 n,.int .i64 d] h Q:=by
 unfold i64 at hn;have t0:=Int.natAbs_tdiv_le_natAbs n d;refine hA.aO Tryz.func63 x63.2 (hA.alike _ _ _ rfl) ar (zc ?_);have e1:arith .quo .i64 n d=n.tdiv d:=by rw[A3 hA,wrap64 om om]
 have e2:arith .rem .i64 n d=n.tmod d:=A4 hA _ _ _;have key:=Int.mul_tdiv_add_tmod n d;have lt1:-d<n.tmod d:=Int.lt_tmod_of_pos n hd;have lt2:n.tmod d<d:=Int.tmod_lt_of_pos n hd;generalize n.tdiv d=t at *;generalize n.tmod d=s at *;have ed:=Int.mul_ediv_add_emod n d;have m0:=Int.emod_nonneg n (show d≠0 by omega);have m1:=Int.emod_lt_of_pos n hd
 (refine zq ?_;repeat ((first|rw[e1]|rw[e2]);refine zq ?_))
 refine br (s<0) (by rw[aA hA]) (fun c=>?_) (fun c=>?_)<;>refine zc ?_
 ·have e3:t-1=n / d:=by
   have w:s+d+d*(t-1)=n:=by rw[Int.mul_sub,Int.mul_one];omega
   exact((Int.ediv_emod_unique hd).2 ⟨w,om,om⟩).1.symm
  have t1:-9223372036854775808<=t-1:=om
  refine zq ?_;rw[bN hA om om,e3];exact hQ
 ·have e3:t=n / d:=((Int.ediv_emod_unique (r:=s) hd).2 ⟨om,om,om⟩).1.symm
  refine zq ?_;rw[e3];exact hQ
theorem Ko{h:af}(ar:h.low<=h.next){n d:Int}{q:Rat}(hq:fW n d q){Q:Value->af->Prop}(hQ:∀h',Ext h h'->Q (.tuple #[.int .i64 (n / d),.int .i64 0]) h'):call 36 [.agg #[.int .i64 n,.int .i64 d]] h Q:=by
 have d1:=hq.den;have n1:=hq.2.2.1;rw[<-hq.1]at n1;refine hA.aO Tryz.func36 x36.2 (hA.alike _ _ _ rfl) ar (zc ?_);refine lI hA ar hq.iU hq.jC (fun e h1 k1 x1=>⟨_,rfl,?_⟩);obtain rfl:e=0:=by
  rcases k1 with ⟨q,_⟩|⟨_,w⟩
  ·exact q
  ·exact absurd hq.ok w
 refine zq ?_;refine br False (by rw[bR hA];rfl) (fun q=>q.elim) (fun _=>?_)<;>refine zc ?_;refine zq ?_;refine Qr hA (x1.aD ar) hq.iU om om ⟨_,rfl,?_⟩;refine zq ?_;exact hQ _ x1
theorem IG{h:af}(ar:h.low<=h.next){n d z D:Int}(hq:fW n d (rq z D))(hD:0<D)(hD2:D<=1000000000000000000){Q:Value->af->Prop}(hQ:∀n' d' h',fW n' d' (rq (z % D) D)->Ext h h'->Q (.agg #[.int .i64 n',.int .i64 d']) h'):call 14 [.agg #[.int .i64 n,.int .i64 d]] h Q:=by
 have fl:=wP hq hD;have d1:=hq.den;have n1:=hq.2.2.1;have n2:=hq.2.2.2.1;rw[<-hq.1]at n1 n2;obtain⟨w,ew⟩:∃w,w=n / d:=⟨_,rfl⟩;have wb:-1000000000000000000<=w/\w<=1000000000000000000:=by
  have:=Int.natAbs_ediv_le_natAbs n d;rw[<-ew]at this;omega
 have hw:=oL wb.1 wb.2;have m0:=Int.emod_nonneg z (show D≠0 by omega);have m1:=Int.emod_lt_of_pos z hD;have ev:rq z D-(w:Rat)=rq (z % D) D:=by
  rw[ew,fl,jX (l:=z / D) (show D≠0 by omega),u6 om]
  congr 1
  have:=Int.mul_ediv_add_emod z D;rw[Int.mul_comm]at this;omega
 refine hA.aO Tryz.func14 x14.2 (hA.alike _ _ _ rfl) ar (zc ?_);refine zq ?_;refine Ko hA ar hq (fun h1 x1=>⟨_,_,rfl,?_⟩);rw[<-ew];obtain⟨X,eX⟩:∃z,z=aH h1 10:=⟨_,rfl⟩;have xb:Ext h1 X:=by rw[eX];exact aw hA _ _
 have lX:X.low<=X.next:=(x1.trans xb).aD ar;refine zq ?_;rw[<-eX];refine G6 hA (aC hA X) ⟨_,_,rfl,?_⟩;refine zq ?_;rw[bQ hA lX];refine Cr hA (aC hA X) hq.iU hq.jC hw.iU hw.jC (fun a b r k h2 x2=>⟨_,_,_,rfl,?_⟩);obtain⟨k1,rfl⟩:=oM hq hw (f:=(· - ·)) (by show fits (rq z D-(w:Rat));rw[ev];exact lD om om om) k
 replace k1:fW a b (rq z D-(w:Rat)):=k1
 rw[ev]at k1;obtain⟨X2,G7⟩:∃z,z=aB X h2:=⟨_,rfl⟩;have x3:Ext h X2:=by rw[G7];exact bW hA ar (x1.trans xb) x2
 refine zq ?_;rw[<-G7];exact hQ a b X2 k1 x3
theorem NS{h0:af}(dE:h0.low<=h0.next){L xn lc xc:Nat}{la xa:Option Addr}{l:List Int}{X:List Fc}(hl:Rows nC 1 h0 la L l)(hx:Rows fC 2 h0 xa xn X)(hL:L<=xn)(hn:L<=1000){D:Int}(hD:0<D){z:Nat->Int}(hz:∀k:Nat,k<L->fW (gt X (k:Int)).n (gt X (k:Int)).d (rq (z k) D)){B:Nat}(h9:∀k:Nat,k<L->(gt l (k:Int)).natAbs<=1000000000000000000)(hb:∀k:Nat,k<L->(gt l (k:Int)*z k).natAbs<=B)(hB:B+D.natAbs<=1000000000000000000){M:Int}(eM:M=L){Q:Exit->SS->Prop}
  (hQ:∀n d h',fW n d (rq (Ext.aV (fun k=>gt l (k:Int)*z k) L % D) D)->Ext h0 h'->Q (.exit 0) ⟨[(4,.pointer (some ⟨0,0,some 0⟩)),(6,.pointer (some ⟨1,0,some 0⟩))],2,[(0,[.int .i64 0,.int .i64 0]),(1,[.int .i64 n,.int .i64 d])],h'⟩) :
  ∀(d k:Nat) (K sn sd:Int) (h:af),L-k<=d->k<=L->K=k->fW sn sd (rq (Ext.aV (fun k=>gt l (k:Int)*z k) k % D) D)->Ext h0 h->
   head 18 3 2 ⟨[(0,.slice la L lc),(1,.slice xa xn xc),(4,.pointer (some ⟨0,0,some 0⟩)),(6,.pointer (some ⟨1,0,some 0⟩)),(7,.int .i64 K)],2,[(0,[.int .i64 0,.int .i64 0]),(1,[.int .i64 sn,.int .i64 sd])],h⟩ Q:=by
 intro d;have e0:ofNat L=M:=by rw[eM];exact aJ hA L
 induction d with
 |zero=>
  intro k K sn sd h hd hk eK hs x;refine hA.au Tryz.func18 x18.2 (zc ?_)
  (refine zq ?_;repeat ((first|rw[e0]);refine zq ?_))
  refine br (K<M) (by rw[aA hA]) (fun q=>om) (fun _=>?_)<;>refine zc ?_;obtain rfl:k=L:=om
  exact hQ sn sd h hs x
 |succ d ih=>
 intro k K sn sd h hd hk eK hs x;by_cases ck:k<L
 rotate_left
 ·refine hA.au Tryz.func18 x18.2 (zc ?_)
  (refine zq ?_;repeat ((first|rw[e0]);refine zq ?_))
  refine br (K<M) (by rw[aA hA]) (fun q=>om) (fun _=>?_)<;>refine zc ?_;obtain rfl:k=L:=om
  exact hQ sn sd h hs x
 obtain⟨X1,zP⟩:∃z,z=aH h 16:=⟨_,rfl⟩;have xb:Ext h X1:=by rw[zP];exact aw hA _ _
 have y1:=x.trans xb;have l1:=y1.aD dE;obtain⟨lb,lo,rfl,OZ,w1⟩:=(hl.ext y1).at (i:=K) om om;have w1:=w1 0 1 om om;obtain⟨TK,xo,rfl,hxb,w2⟩:=(hx.ext y1).at (i:=K) om om;have w2:=w2 0 2 om om;have zk:=hz k ck;have b9:=h9 k ck;have bb:=hb k ck;obtain⟨c,ec⟩:∃z,z=gt l (k:Int):=⟨_,rfl⟩;obtain⟨f,ef⟩:∃z,z=gt X (k:Int):=⟨_,rfl⟩;obtain⟨S,eS⟩:∃s,s=Ext.aV (fun k=>gt l (k:Int)*z k) k:=⟨_,rfl⟩;have W4:Ext.aV (fun k=>gt l (k:Int)*z k) (k+1)=S+c*z k:=by rw[eS,ec];rfl
 rw[eK,<-ec]at w1;rw[eK,<-ef]at w2;rw[<-ef]at zk;rw[<-ec]at b9 bb;rw[<-eS]at hs;obtain⟨fn,fd⟩:=f;obtain⟨v,ev⟩:∃v,v=z k:=⟨_,rfl⟩;rw[<-ev]at zk bb W4;have zk:fW fn fd (rq v D):=zk;rw[<-eK]at w1 w2;have r1:rd X1 lb (place lo K 1) 1 [.int .i64 c]:=aE hA w1;have r2:rd X1 TK (place xo K 2) 2 [.int .i64 fn,.int .i64 fd]:=aE hA w2;have hc:=oL (n:=c) om om;refine hA.au Tryz.func18 x18.2 (zc ?_)
 (refine zq ?_;repeat ((first|rw[e0]);refine zq ?_))
 refine br (K<M) (by rw[aA hA]) (fun _=>?_) (fun q=>om)<;>refine zc ?_;rw[<-zP];refine zq ?_;refine G6 hA (aC hA X1) ⟨_,_,rfl,?_⟩;refine zq ?_;rw[bQ hA l1];refine Ii hA (aC hA X1) hc.iU hc.jC zk.iU zk.jC (fun a b r q h2 x2=>⟨_,_,_,rfl,?_⟩);obtain⟨q1,rfl⟩:=oM hc zk (f:=(· * ·)) (by show fits ((c:Rat)*rq v D);rw[u7];exact lD om om om) q
 replace q1:fW a b ((c:Rat)*rq v D):=q1
 rw[u7]at q1;obtain⟨X2,G7⟩:∃z,z=aB X1 h2:=⟨_,rfl⟩;have y2:Ext h0 X2:=by rw[G7];exact bW hA dE y1 x2
 have elim:bZ (next h) 16=X1.next:=by rw[dj hA,cX hA,zP,mV hA];rfl
 have nw0:wrote X1 (fresh X1)=false:=gL hA (.refl _);have nw:=gL hA x2;refine zq ?_;refine⟨TL hA nw0 (by rw[elim];exact hxb),nw0,nw,?_⟩;rw[<-G7];refine zq ?_;refine br ((0:Int)=0) (by rw[cY hA]) (fun _=>?_) (fun q=>absurd rfl q)<;>refine zc ?_;refine zq ?_;have em:=Int.emod_nonneg S (show D≠0 by omega);have RA:=Int.emod_lt_of_pos S hD;refine Cq hA (y2.aD dE) hs.iU hs.jC q1.iU q1.jC (fun a2 b2 r2 q2 h3 x3=>⟨_,_,_,rfl,?_⟩);have NT:rq (S % D) D+rq (c*v) D=rq (S % D+c*v) D:=sI om;obtain⟨q3,rfl⟩:=oM hs q1 (f:=(· + ·)) (by show fits (rq (S % D) D+rq (c*v) D);rw[NT];exact lD om om om) q2
 replace q3:fW a2 b2 (rq (S % D) D+rq (c*v) D):=q3
 rw[NT]at q3;refine zq ?_;refine br ((0:Int)≠0) (by rw[bR hA]) (fun q=>absurd rfl q) (fun _=>?_)<;>refine zc ?_;refine zq ?_;refine IG hA (x3.aD (y2.aD dE)) q3 hD om (fun a3 b3 h4 q4 x4=>⟨_,_,rfl,?_⟩);have eM2:(S % D+c*v) % D=(S+c*v) % D:=Int.emod_add_emod ..;rw[eM2,<-W4]at q4;refine zq ?_;rw[aG hA om om];exact ih (k+1) (K+1) a3 b3 h4 om om om q4 ((y2.trans x3).trans x4)
theorem Qs{h:af}(ar:h.low<=h.next){L xn lc xc:Nat}{la xa:Option Addr}{l:List Int}{X:List Fc}(hl:Rows nC 1 h la L l)(hx:Rows fC 2 h xa xn X)(hL:L<=xn)(hn:L<=1000){D:Int}(hD:0<D){z:Nat->Int}(hz:∀k:Nat,k<L->fW (gt X (k:Int)).n (gt X (k:Int)).d (rq (z k) D)){B:Nat}(h9:∀k:Nat,k<L->(gt l (k:Int)).natAbs<=1000000000000000000)(hb:∀k:Nat,k<L->(gt l (k:Int)*z k).natAbs<=B)(hB:B+D.natAbs<=1000000000000000000){Q:Value->af->Prop}
  (hQ:∀n d h',fW n d (rq (Ext.aV (fun k=>gt l (k:Int)*z k) L % D) D)->Ext h h'->Q (.tuple #[.agg #[.int .i64 n,.int .i64 d],.bool true]) h'):call 18 [.slice la L lc,.slice xa xn xc] h Q:=by
 refine hA.aO Tryz.func18 x18.2 (hA.alike _ _ _ rfl) ar (zc ?_);refine zq ?_;refine G6 hA ar ⟨_,_,rfl,?_⟩;refine zq ?_;refine NS hA ar hl hx hL hn hD hz h9 hb hB (M:=(L:Int)) rfl (fun n d h' q x=>?_) L 0 0 0 1 h om om rfl ?_ (.refl h)
 ·refine zq ?_
  exact hQ n d h' q x
 ·show fW 0 1 (rq ((0:Int) % D) D)
  rw[Int.zero_emod];have e:rq 0 D=((0:Int):Rat):=by rw[jX (l:=0) (show D≠0 by omega),Int.zero_mul]
  rw[e];exact oL om om
theorem Qt{h0:af}(dE:h0.low<=h0.next){m n r k b c n1 c1 n2 c2:Nat}{a1 a2:Option Addr}{g:List (List Int)}(hM:oX g m n)(ir:oC g m n r)(ek:k=r+1)(B:H7 h0 1 b k c ((GH g m n k).flatMap nC)){N:Int}(eN:N=k){Q:Exit->SS->Prop}
  (hQ:∀(h':af) qa qc kn T,mT h' 1 qa r qc ((Ej g m n r).flatMap nC)->jm h0.next qa->Ext h0 h'->Q (.exit 0) ⟨[(6,.slice qa r qc)],kn,T,h'⟩) :
  ∀(d i:Nat) (K:Int) (h:af) (qa:Option Addr) (qc:Nat),r-i<=d->i<=r->K=i+1->mT h 1 qa i qc ((Ej g m n i).flatMap nC)->jm h0.next qa->Ext h0 h->
   head 7 7 1 ⟨[(5,.slice (some ⟨b,0,none⟩) k c),(6,.slice qa i qc),(7,.int .i64 K)],1,[(0,[.slice a1 n1 c1,.slice a2 n2 c2])],h⟩ Q:=by
 intro d;have rm:=ir.lm;have m4:=hM.m4;have e1:ofNat k=N:=by rw[eN];exact aJ hA k
 induction d with
 |zero=>
  intro i K h qa qc hd hi eK t hf x;refine hA.au Tryz.func7 x7.2 (zc ?_)
  (refine zq ?_;repeat ((first|rw[e1]);refine zq ?_))
  refine br (K<N) (by rw[aA hA]) (fun q=>om) (fun _=>?_)<;>refine zc ?_;obtain rfl:i=r:=om
  exact hQ h qa qc _ _ t hf x
 |succ d ih=>
 intro i K h qa qc hd hi eK t hf x;by_cases ci:i<r
 rotate_left
 ·refine hA.au Tryz.func7 x7.2 (zc ?_)
  (refine zq ?_;repeat ((first|rw[e1]);refine zq ?_))
  refine br (K<N) (by rw[aA hA]) (fun q=>om) (fun _=>?_)<;>refine zc ?_;obtain rfl:i=r:=om
  exact hQ h qa qc _ _ t hf x
 obtain⟨h9,iH⟩:∃z,z=aH h 14:=⟨_,rfl⟩;have x9:Ext h h9:=by rw[iH];exact aw hA _ _
 have e9:=x.trans x9;have B9:=B.ext e9;have R9:=ct.rows B9.own gC om B9.lt;rw[show(GH g m n k).length=k from bP _ _]at R9;have nzx:=ir.pos (k:=i+1) om;have nzy:=ir.pos (k:=i) om;have lx:=Ext.NU hM.nine m n (i+1);have ly:=Ext.NU hM.nine m n i;have es:=Km g m n i;obtain⟨x1,Qj⟩:∃z:Int,z=Ext.Dv g m n (i+1):=⟨_,rfl⟩;obtain⟨y1,WQ⟩:∃z:Int,z=Ext.Dv g m n i:=⟨_,rfl⟩;obtain⟨q,eq⟩:∃z:Int,z=((Ext.Dv g m n (i+1) / Ext.Dv g m n i:Nat):Int):=⟨_,rfl⟩;rw[<-eq]at es;have Yy:q=x1 / y1:=by rw[eq,Qj,WQ];push_cast;rfl
 obtain⟨K1,eK1⟩:∃z:Int,z=K-1:=⟨_,rfl⟩;have m0:arith .sub .i64 K 1=K1:=by rw[eK1];exact bN hA om om
 have m1:arith .quo .i64 x1 y1=q:=by rw[Yy];exact tF hA om om om
 have gx:gt (GH g m n k) K=x1:=by
  have:=fU (fun x=>(Ext.Dv g m n x:Int)) (n:=k) (i:=i+1) om;rw[Qj,eK,show((i:Int)+1)=((i+1:Nat):Int) by omega];exact this
 have gy:gt (GH g m n k) K1=y1:=by
  have:=fU (fun x=>(Ext.Dv g m n x:Int)) (n:=k) (i:=i) om;rw[WQ,eK1,eK,show((i:Int)+1-1)=(i:Int) by omega];exact this
 obtain⟨b',o',e',_,q1⟩:=R9.at (i:=K) om om;cases e';have q1:=q1 0 1 om om;obtain⟨b',o',e',_,q2⟩:=R9.at (i:=K1) om om;cases e';have q2:=q2 0 1 om om;rw[gx]at q1;rw[gy]at q2;have r1:rd h9 b (place 0 K 1) 1 [.int .i64 x1]:=aE hA q1;have r2:rd h9 b (place 0 K1 1) 1 [.int .i64 y1]:=aE hA q2;refine hA.au Tryz.func7 x7.2 (zc ?_)
 (refine zq ?_;repeat ((first|rw[e1]);refine zq ?_))
 refine br (K<N) (by rw[aA hA]) (fun _=>?_) (fun q=>om)<;>refine zc ?_;refine zq ?_;rw[<-iH]
 (refine zq ?_;repeat ((first|rw[m0]|rw[m1]);refine zq ?_))
 refine IH hA RW gC om EH dE x om iH (v:=q) t hf om (fun a' c' h' sP La x'=>?_);obtain⟨hZ,RJ⟩:∃z,z=aB (putAt h9 (bZ (next h) 11) 1 (nC q)) h':=⟨_,rfl⟩;rw[<-RJ]at sP x';have TM:hZ=aB (putAt h9 (bZ (next h) 11) 1 [.int .i64 q]) h':=RJ;rw[<-es]at sP;obtain⟨i1,NV⟩:∃z,z=i+1:=⟨_,rfl⟩;rw[<-NV]at sP ⊢;refine zc ?_;rw[<-TM];refine zq ?_;rw[aG hA om om];exact ih i1 (K+1) hZ a' c' om om om sP La x'
theorem Ax{h:af}(ar:h.low<=h.next){m ac k bc:Nat}{aa ba:Option Addr}{dk:List Hd}{g:List (List Int)}{B:List Fc}(hg:zm nC 1 h aa m dk g)(hB:Rows fC 2 h ba k B)(hi:∀i:Int,0<=i->i<k->i64 (gt B i).n/\i64 (gt B i).d){Q:Value->af->Prop}
  (TN:∀e h',ic g B e->e≠0->Ext h h'->Q (.tuple #[.slice none 0 0,.int .i64 e]) h')
  (Qu:∀h' n r qa qc,ic g B 0->oX g m n->Ext h h'->oC g m n r->mT h' 1 qa r qc ((Ej g m n r).flatMap nC)->Q (.tuple #[.slice qa r qc,.int .i64 0]) h'):call 7 [.agg #[.slice aa m ac,.slice ba k bc]] h Q:=by
 refine hA.aO Tryz.func7 x7.2 (hA.alike _ _ _ rfl) ar (zc ?_);refine tV hA ar hg hB hi (fun e h1 he x1=>⟨e,rfl,?_⟩);refine zq ?_;refine br (e≠0) (by rw[bR hA]) (fun c=>?_) (fun c=>?_)<;>refine zc ?_
 ·refine zq ?_
  exact TN e h1 he c x1
 obtain rfl:e=0:=om
 obtain⟨gd,nm⟩:=he.ph;obtain⟨m',n,hM⟩:=gd.YA nm;obtain rfl:m=m':=by have:=hg.len;have:=hM.len;omega
 have zJ:=hg.full (fun y y0 y1=>by rw[hM.row y y0 y1];exact hM.n1);refine zq ?_;refine vJ hA (x1.aD ar) hM (zJ.ext x1) (fun h2 b k2 c2 r ek ir B2 x2=>⟨_,_,_,rfl,?_⟩);obtain⟨N,eN⟩:∃z:Int,z=k2:=⟨_,rfl⟩;refine zq ?_;refine Qt hA (x2.aD (x1.aD ar)) hM ir ek B2 eN (fun h' qa qc kn T t hf x=>?_) r 0 1 h2 none 0 om om rfl (.nil _ _) (.none _) (.refl _);refine zq ?_;exact Qu h' n r qa qc he hM ((x1.trans x2).trans x) ir t
theorem NW{h:af}{n k nc kc:Nat}{ba pa:Option Addr}{b p:List Int}(hb:Rows nC 1 h ba n b)(hp:Rows nC 1 h pa k p)(hk:k<=n)(k4:k<=1000){B:Nat}(hB:∀i:Nat,i<k->(gt b (i:Int)*gt p (i:Int)).natAbs<=B)(Yn:k*B<=4000000000000000000){W M:Int}(eM:M=k){Q:Exit->SS->Prop}
  (hQ:∀t kn T,t=Ext.aV (fun i=>gt b (i:Int)*gt p (i:Int)) k->t.natAbs<=k*B->Q (.exit 0) ⟨[(2,.int .i64 W),(7,.int .i64 t)],kn,T,h⟩) :
  ∀(d i:Nat) (I t:Int),k-i<=d->i<=k->I=i->t=Ext.aV (fun i=>gt b (i:Int)*gt p (i:Int)) i->t.natAbs<=i*B->
   head 44 3 0 ⟨[(0,.slice ba n nc),(2,.int .i64 W),(7,.int .i64 t),(10,.slice pa k kc),(11,.int .i64 M),(12,.int .i64 I)],0,[],h⟩ Q:=by
 refine o8 (fun d ih=>?_);intro i I t hd hi eI et bt;by_cases ci:i<k
 rotate_left
 ·refine hA.au Tryz.func44 x44.2 (zc ?_)
  refine br (I<M) (by rw[aA hA]) (fun q=>om) (fun _=>?_)<;>refine zc ?_;obtain rfl:i=k:=om
  exact hQ t _ _ et bt
 obtain⟨d,rfl⟩:∃k,d=k+1:=⟨d-1,om⟩
 replace ih:=ih d rfl
 obtain⟨bb,bo,rfl,_,w1⟩:=hb.at (i:=I) om om;have w1:=w1 0 1 om om;obtain⟨pb,po,rfl,_,w2⟩:=hp.at (i:=I) om om;have w2:=w2 0 1 om om;have b1:=hB i ci;obtain⟨x,ex⟩:∃s,s=gt b (i:Int):=⟨_,rfl⟩;obtain⟨y,ey⟩:∃s,s=gt p (i:Int):=⟨_,rfl⟩;rw[eI,<-ex,<-eI]at w1;rw[eI,<-ey,<-eI]at w2;rw[<-ex,<-ey]at b1;have r1:rd h bb (place bo I 1) 1 [.int .i64 x]:=aE hA w1;have r2:rd h pb (place po I 1) 1 [.int .i64 y]:=aE hA w2;have h1:(i+1)*B<=k*B:=Nat.mul_le_mul_right _ ci;rw[Nat.add_mul]at h1;obtain⟨u,eu⟩:∃s,s=x*y:=⟨_,rfl⟩;rw[<-eu]at b1;have m1:arith .mul .i64 x y=u:=by rw[eu];exact jg hA (by rw[<-eu];omega) (by rw[<-eu];omega)
 obtain⟨t2,et2⟩:∃s,s=t+u:=⟨_,rfl⟩;have m2:arith .add .i64 t u=t2:=by clear et;rw[et2];exact aG hA om om
 have bt2:t2.natAbs<=(i+1)*B:=by clear et;rw[Nat.add_mul];omega
 have et3:t2=Ext.aV (fun i=>gt b (i:Int)*gt p (i:Int)) (i+1):=by
  show t2=Ext.aV (fun i=>gt b (i:Int)*gt p (i:Int)) i+gt b (i:Int)*gt p (i:Int);rw[et2,et,eu,ex,ey]
 refine hA.au Tryz.func44 x44.2 (zc ?_);refine br (I<M) (by rw[aA hA]) (fun _=>?_) (fun q=>om)<;>refine zc ?_
 (refine zq ?_;repeat ((first|rw[m1]|rw[m2]);refine zq ?_))
 rw[aG hA om om];exact ih (i+1) (I+1) t2 om om om et3 bt2
theorem CF{h:af}(ar:h.low<=h.next){n k nc kc:Nat}{ba pa:Option Addr}{b p:List Int}(hb:Rows nC 1 h ba n b)(hp:Rows nC 1 h pa k p)(hk:k<=n)(k4:k<=1000){B:Nat}(hB:∀i:Nat,i<k->(gt b (i:Int)*gt p (i:Int)).natAbs<=B)(Yn:k*B<=4000000000000000000){W:Int}(hW:0<W)(hW2:W<=4000000000000000000){Q:Value->af->Prop}
  (hQ:∀v,v=Ext.aV (fun i=>gt b (i:Int)*gt p (i:Int)) k % W->Q (.int .i64 v) h):call 44 [.slice ba n nc,.slice pa k kc,.int .i64 W] h Q:=by
 obtain⟨M,eM⟩:∃s:Int,s=k:=⟨_,rfl⟩;have e0:ofNat k=M:=by rw[eM];exact aJ hA k
 refine hA.aO Tryz.func44 x44.2 (hA.alike _ _ _ rfl) ar (zc ?_)
 (refine zq ?_;repeat ((first|rw[e0]);refine zq ?_))
 refine NW hA hb hp hk k4 hB Yn eM (fun t kn T et bt=>?_) k 0 0 0 om om rfl rfl (by show(0:Int).natAbs<=_;exact Nat.zero_le _);have d1:=Int.mul_ediv_add_emod t W;have d2:=Int.emod_nonneg t (show W≠0 by omega);have d3:=Int.emod_lt_of_pos t hW;obtain⟨q,eq⟩:∃s,s=t / W:=⟨_,rfl⟩;obtain⟨r,er⟩:∃s,s=t % W:=⟨_,rfl⟩;obtain⟨u,eu⟩:∃s,s=W*q:=⟨_,rfl⟩;rw[<-eq,<-er,<-eu]at d1;rw[<-er]at d2 d3;have hv:r=Ext.aV (fun i=>gt b (i:Int)*gt p (i:Int)) k % W:=by rw[er,et]
 have hq:=hQ r hv;clear hv et;have m1:arith .mul .i64 W q=u:=by rw[eu];exact jg hA (by rw[<-eu];omega) (by rw[<-eu];omega)
 have m2:arith .sub .i64 t u=r:=by rw[bN hA om om];omega
 refine zq ?_;refine rD hA hW om om ar (fun q' WL=>⟨q',rfl,?_⟩);obtain rfl:q'=q:=by rw[WL,eq]
 (refine zq ?_;repeat ((first|rw[m1]|rw[m2]);refine zq ?_))
 exact hq
theorem TO{h0:af}(dE:h0.low<=h0.next){k bc:Nat}{ba:Option Addr}{B:List Fc}(hB:Rows fC 2 h0 ba k B)(k4:k<=4)(ht:∀i:Int,0<=i->i<k->cH (gt B i)/\(gt B i).d<=60){M:Int}(eM:M=k){Q:Exit->SS->Prop}
  (hQ:∀W h' ,wk B k W->Ext h0 h'->Q (.exit 0) ⟨[(0,.slice ba k bc),(2,.slice none 0 0),(3,.int .i64 W)],0,[],h'⟩) :
  ∀(d i:Nat) (I W:Int) (h:af),k-i<=d->i<=k->I=i->wk B i W->Ext h0 h->
   head 28 3 0 ⟨[(0,.slice ba k bc),(2,.slice none 0 0),(3,.int .i64 W),(9,.slice ba k bc),(10,.int .i64 M),(11,.int .i64 I)],0,[],h⟩ Q:=by
 refine o8 (fun d ih=>?_);intro i I W h hd hi eI w x;by_cases ci:i<k
 rotate_left
 ·refine hA.au Tryz.func28 x28.2 (zc ?_)
  refine br (I<M) (by rw[aA hA]) (fun q=>om) (fun _=>?_)<;>refine zc ?_;obtain rfl:i=k:=om
  exact hQ W h w x
 obtain⟨d,rfl⟩:∃k,d=k+1:=⟨d-1,om⟩
 replace ih:=ih d rfl
 obtain⟨⟨ok,n0,n1⟩,d60⟩:=ht i om om;obtain⟨bb,bo,rfl,_,w1⟩:=(hB.ext x).at (i:=I) om om;have w1:=w1 0 2 om om;obtain⟨f,ef⟩:∃f,f=gt B (i:Int):=⟨_,rfl⟩;rw[eI,<-ef,<-eI]at w1;rw[<-ef]at ok n0 n1 d60;have f1:=ok.is.den;have w2:=w.step (d:=f.d) (by rw[ef]) f1 d60;have wp:=w.pos;have wl:=w.le;have p60:(60:Nat) ^ i<=60 ^ 4:=Nat.pow_le_pow_right om om;obtain⟨fn,fd⟩:=f;simp only at *;have r1:rd h bb (place bo I 2) 2 [.int .i64 fn,.int .i64 fd]:=aE hA w1;have w2l:=w2.le;have w2p:=w2.pos;have p61:(60:Nat) ^ (i+1)<=60 ^ 4:=Nat.pow_le_pow_right om om;have gpos:0<Int.gcd W fd:=Int.gcd_pos_of_ne_zero_left fd om;refine hA.au Tryz.func28 x28.2 (zc ?_);refine br (I<M) (by rw[aA hA]) (fun _=>?_) (fun q=>om)<;>refine zc ?_;refine zq ?_;refine IA hA (x.aD dE) (a:=W) (b:=fd) om om (fun h' x'=>⟨_,rfl,?_⟩);obtain⟨G,eG⟩:∃s:Int,s=(Int.gcd W fd:Int):=⟨_,rfl⟩;rw[<-eG]at w2 w2l w2p ⊢;have m1:arith .quo .i64 fd G=fd / G:=tF hA om om om;obtain⟨c,ec⟩:∃s,s=fd / G:=⟨_,rfl⟩;rw[<-ec]at w2 w2l w2p m1;obtain⟨W2,YG⟩:∃s,s=W*c:=⟨_,rfl⟩;rw[<-YG]at w2 w2l w2p;have m2:arith .mul .i64 W c=W2:=by rw[YG];exact jg hA (by rw[<-YG];omega) (by rw[<-YG];omega)
 (refine zq ?_;repeat ((first|rw[m1]|rw[m2]);refine zq ?_))
 rw[aG hA om om];exact ih (i+1) (I+1) W2 h' om om om w2 (x.trans x')
omit hA in
theorem Kp(B:List Fc)(W:Int)(k:Nat):Av B W (k+1)=Av B W k++[(gt B (k:Int)).n*(W / (gt B (k:Int)).d)]:=nH _ _
theorem TP{h0:af}(dE:h0.low<=h0.next){k bc:Nat}{ba:Option Addr}{B:List Fc}(hB:Rows fC 2 h0 ba k B)(k4:k<=4)(ht:∀i:Int,0<=i->i<k->cH (gt B i)/\(gt B i).d<=60){M W:Int}(eM:M=k)(w:wk B k W){Q:Exit->SS->Prop}
  (hQ:∀h' qa qc,mT h' 1 qa k qc ((Av B W k).flatMap nC)->jm h0.next qa->Ext h0 h'->Q (.exit 2) ⟨[(2,.slice qa k qc),(3,.int .i64 W)],0,[],h'⟩) :
  ∀(d i:Nat) (I:Int) (h:af) (qa:Option Addr) (qc:Nat),k-i<=d->i<=k->I=i->mT h 1 qa i qc ((Av B W i).flatMap nC)->jm h0.next qa->Ext h0 h->
   head 28 9 0 ⟨[(2,.slice qa i qc),(3,.int .i64 W),(25,.slice ba k bc),(26,.int .i64 M),(27,.int .i64 I)],0,[],h⟩ Q:=by
 refine o8 (fun d ih=>?_);intro i I h qa qc hd hi eI t hf x;by_cases ci:i<k
 rotate_left
 ·refine hA.au Tryz.func28 x28.2 (zc ?_)
  refine br (I<M) (by rw[aA hA]) (fun q=>om) (fun _=>?_)<;>refine zc ?_;obtain rfl:i=k:=om
  exact hQ h qa qc t hf x
 obtain⟨d,rfl⟩:∃k,d=k+1:=⟨d-1,om⟩
 replace ih:=ih d rfl
 obtain⟨⟨ok,n0,n1⟩,d60⟩:=ht i om om;obtain⟨bb,bo,rfl,_,w1⟩:=(hB.ext x).at (i:=I) om om;have w1:=w1 0 2 om om;obtain⟨pq,p0,p1,_⟩:=w.part ht ci;have es:=Kp B W i;have wp:=w.pos;have wl:=w.le;have p60:(60:Nat) ^ k<=60 ^ 4:=Nat.pow_le_pow_right om om;obtain⟨f,ef⟩:∃f,f=gt B (i:Int):=⟨_,rfl⟩;rw[eI,<-ef,<-eI]at w1;rw[<-ef]at ok n0 n1 d60 es p0 p1;have f1:=ok.is.den;obtain⟨fn,fd⟩:=f;simp only at *;have r1:rd h bb (place bo I 2) 2 [.int .i64 fn,.int .i64 fd]:=aE hA w1;have m1:arith .quo .i64 W fd=W / fd:=tF hA om om om;obtain⟨c,ec⟩:∃s,s=W / fd:=⟨_,rfl⟩;rw[<-ec]at m1 es p0 p1;obtain⟨q,eq⟩:∃s,s=fn*c:=⟨_,rfl⟩;rw[<-eq]at es p0 p1;have m2:arith .mul .i64 fn c=q:=by rw[eq];exact jg hA (by rw[<-eq];omega) (by rw[<-eq];omega)
 obtain⟨h9,iH⟩:∃z,z=aH h 11:=⟨_,rfl⟩;refine hA.au Tryz.func28 x28.2 (zc ?_);refine br (I<M) (by rw[aA hA]) (fun _=>?_) (fun q=>om)<;>refine zc ?_;refine zq ?_;rw[<-iH]
 (refine zq ?_;repeat ((first|rw[m1]|rw[m2]);refine zq ?_))
 refine IH hA RW gC om EH dE x om iH (v:=q) t hf om (fun a' c' h' sP La x'=>?_);obtain⟨hZ,RJ⟩:∃z,z=aB (putAt h9 (bZ (next h) 8) 1 (nC q)) h':=⟨_,rfl⟩;rw[<-RJ]at sP x';have TM:hZ=aB (putAt h9 (bZ (next h) 8) 1 [.int .i64 q]) h':=RJ;rw[<-es]at sP;obtain⟨i1,NV⟩:∃z,z=i+1:=⟨_,rfl⟩;rw[<-NV]at sP ⊢;refine zc ?_;rw[<-TM];refine zq ?_;rw[aG hA om om];exact ih i1 (I+1) hZ a' c' om om om sP La x'
theorem Bl{h:af}(ar:h.low<=h.next){k bc:Nat}{ba:Option Addr}{B:List Fc}(hB:Rows fC 2 h ba k B)(k4:k<=4)(ht:∀i:Int,0<=i->i<k->cH (gt B i)/\(gt B i).d<=60){Q:Value->af->Prop}
  (hQ:∀W h' qa qc,wk B k W->mT h' 1 qa k qc ((Av B W k).flatMap nC)->Ext h h'->Q (.tuple #[.slice qa k qc,.int .i64 W]) h'):call 28 [.slice ba k bc] h Q:=by
 obtain⟨M,eM⟩:∃s:Int,s=k:=⟨_,rfl⟩;have e0:ofNat k=M:=by rw[eM];exact aJ hA k
 refine hA.aO Tryz.func28 x28.2 (hA.alike _ _ _ rfl) ar (zc ?_)
 (refine zq ?_;repeat ((first|rw[e0]);refine zq ?_))
 refine TO hA ar hB k4 ht eM (fun W h1 w x=>?_) k 0 0 1 h om om rfl (wk.start B) (.refl h)
 (refine zq ?_;repeat ((first|rw[e0]);refine zq ?_))
 refine TP hA ar hB k4 ht eM w (fun h2 qa qc t hf x2=>?_) k 0 0 h1 none 0 om om rfl (.nil _ _) (.none _) x;refine zq ?_;exact hQ W h2 qa qc w t x2
theorem NX{h:af}(ar:h.low<=h.next){h0:af}{m n r s pc qc:Nat}{pa qa:Option Addr}{rb:Nat->Nat}{g:List (List Int)}{B:List Fc}{A:Nat->Ext.aR}(hM:oX g m n)(a:bL g m n r s A)(ht:∀i:Int,0<=i->i<m->cH (gt B i)/\(gt B i).d<=60){W:Int}(w:wk B m W)(hp:Rows nC 1 h pa m (Av B W m))(hr:Fz h0 h s m qa qc rb (fun y j=>A (r+y) (n+j))){S:Int}(eS:S=s){c1:List Value}{Q:Exit->SS->Prop}
  (iu:(¬∀i,i<s->Ext.aV (fun j=>A (r+i) (n+j)*rE B W j) m % W=0)->∀env kn T,Q .ret ⟨(2,.bool false) :: env,kn,T,h⟩)
  (dr:(∀i,i<s->Ext.aV (fun j=>A (r+i) (n+j)*rE B W j) m % W=0)->∀kn T,Q (.exit 0) ⟨[],kn,T,h⟩) :
  ∀(d i:Nat) (I:Int),s-i<=d->i<=s->I=i->(∀j,j<i->Ext.aV (fun k=>A (r+j) (n+k)*rE B W k) m % W=0)->
   head 27 4 1 ⟨[(3,.slice pa m pc),(4,.int .i64 W),(21,.slice qa s qc),(22,.int .i64 S),(23,.int .i64 I)],1,[(0,c1)],h⟩ Q:=by
 intro d;have m4:=hM.m4;have hs:=a.sum;have hW:=w.gF m4
 induction d with
 |zero=>
  intro i I hd hi eI hz;refine hA.au Tryz.func27 x27.2 (zc ?_);refine br (I<S) (by rw[aA hA]) (fun q=>om) (fun _=>?_)<;>refine zc ?_;exact dr (fun j hj=>hz j om) _ _
 |succ d ih=>
 intro i I hd hi eI hz;by_cases ci:i<s
 rotate_left
 ·refine hA.au Tryz.func27 x27.2 (zc ?_)
  refine br (I<S) (by rw[aA hA]) (fun q=>om) (fun _=>?_)<;>refine zc ?_;exact dr (fun j hj=>hz j om) _ _
 obtain⟨b,rfl,_,q1⟩:=hr.head ci;obtain⟨cw,qE⟩:∃z,z=az 1 m:=⟨_,rfl⟩;rw[<-qE]at q1;have r1:rd h b (place 0 I 1) 1 [.slice (some ⟨rb i,0,none⟩) m cw]:=aE hA (by rw[eI];exact q1);have rw1:=hr.rows.jU ci;have ev:∀v,v=Ext.aV (fun k=>gt (kR (fun j=>A (r+i) (n+j)) m) (k:Int)*gt (Av B W m) (k:Int)) m % W->v=Ext.aV (fun k=>A (r+i) (n+k)*rE B W k) m % W:=fun v hv=>by
  rw[hv]
  congr 1
  exact Ext.aQ m (fun k hk=>by rw[fU _ hk,CE hk])
 refine hA.au Tryz.func27 x27.2 (zc ?_);refine br (I<S) (by rw[aA hA]) (fun _=>?_) (fun q=>om)<;>refine zc ?_;refine zq ?_;refine CF hA ar rw1 hp (Nat.le_refl m) om (B:=8162933760000) (fun k hk=>?_) om w.pos om (fun v hv=>⟨v,rfl,?_⟩)
 ·rw[fU _ hk,CE hk]
  obtain⟨_,p0,p1,_⟩:=w.part ht hk;exact IF (a.small hM om _) p0 p1 hW
 have Dh:=ev v hv;clear hv ev;refine zq ?_;refine br (v≠0) (by rw[bR hA]) (fun c=>?_) (fun c=>?_)<;>refine zc ?_
 ·refine zq ?_
  exact iu (fun q=>c (Dh.trans (q i ci))) _ _ _
 ·refine zq ?_
  rw[aG hA om om];refine ih (i+1) (I+1) om om om (fun j hj=>?_);by_cases e:j=i
  ·rw[e,<-Dh];omega
  ·exact hz j om
theorem vQ(hI:sH F){h:af}(ar:h.low<=h.next){m n ac k bc:Nat}{aa ba:Option Addr}{dk:List Hd}{g:List (List Int)}{B:List Fc}(hM:oX g m n)(hg:pz nC 1 h aa m dk g)(hB:Rows fC 2 h ba k B)(ekm:k=m)(ht:∀i:Int,0<=i->i<m->cH (gt B i)/\(gt B i).d<=60){Q:Value->af->Prop}
  (hQ:∀(b:Bool) h',(b=true↔rY g B m n)->Ext h h'->Q (.bool b) h'):call 27 [.agg #[.slice aa m ac,.slice ba k bc]] h Q:=by
 subst ekm;refine hA.aO Tryz.func27 x27.2 (hA.alike _ _ _ rfl) ar (zc ?_);refine zq ?_;refine Bl hA ar hB hM.m4 ht (fun W h1 pa pc w t x1=>⟨_,_,_,_,rfl,?_⟩);refine zq ?_;refine EU hA hI (x1.aD ar) hM (hg.ext x1) (fun h2 r s ra rc qa qc bs rb A st rw hd gd _=>⟨_,_,_,_,_,_,rfl,?_⟩);obtain⟨S,eS⟩:∃z:Int,z=s:=⟨_,rfl⟩;have e0:ofNat s=S:=by rw[eS];exact aJ hA s
 have x2:=rw.ext
 (refine zq ?_;repeat ((first|rw[e0]);refine zq ?_))
 refine NX hA (x2.aD (x1.aD ar)) hM st ht w ⟨(t.ext x2).cells,gC,om⟩ gd eS (fun q env kn T=>?_) (fun q kn T=>?_) s 0 0 om om rfl (fun j hj=>om)
 ·refine zq ?_
  exact hQ false h2 ⟨(fun q=>by cases q),fun z=>absurd ((st.holds ht w).2 z) q⟩ (x1.trans x2)
 ·refine zq ?_
  exact hQ true h2 ⟨fun _=>(st.holds ht w).1 q,fun _=>rfl⟩ (x1.trans x2)
theorem vR(hI:sH F){h:af}(ar:h.low<=h.next){m ac k bc:Nat}{aa ba:Option Addr}{dk:List Hd}{g:List (List Int)}{B:List Fc}(hg:zm nC 1 h aa m dk g)(hB:Rows fC 2 h ba k B)(hi:∀i:Int,0<=i->i<k->i64 (gt B i).n/\i64 (gt B i).d){Q:Value->af->Prop}
  (TN:∀e h',ic g B e->e≠0->Ext h h'->Q (.tuple #[.bool false,.int .i64 e]) h')
  (Qu:∀(b:Bool) h' n,ic g B 0->oX g m n->(b=true↔rY g B m n)->Ext h h'->Q (.tuple #[.bool b,.int .i64 0]) h'):call 9 [.agg #[.slice aa m ac,.slice ba k bc]] h Q:=by
 refine hA.aO Tryz.func9 x9.2 (hA.alike _ _ _ rfl) ar (zc ?_);refine zq ?_;refine tV hA ar hg hB hi (fun e h1 he x1=>⟨e,rfl,?_⟩);refine zq ?_;refine br (e≠0) (by rw[bR hA]) (fun c=>?_) (fun c=>?_)<;>refine zc ?_
 ·refine zq ?_
  exact TN e h1 he c x1
 obtain rfl:e=0:=om
 obtain⟨gd,nm⟩:=he.ph;obtain⟨m',n,hM⟩:=gd.YA nm;obtain rfl:m=m':=by have:=hg.len;have:=hM.len;omega
 have zJ:=hg.full (fun y y0 y1=>by rw[hM.row y y0 y1];exact hM.n1);have RV:k=m:=by have:=gd.len;have:=hB.len;have:=hg.len;omega
 refine zq ?_;refine vQ hA hI (x1.aD ar) hM (zJ.ext x1) (hB.ext x1) RV (fun i i0 i1=>gd.turn i i0 (by have:=hB.len;omega)) (fun b h2 hb x2=>⟨b,rfl,?_⟩);refine zq ?_;exact Qu b h2 n he hM hb (x1.trans x2)
theorem EY(hI:sH F){h:af}(ar:h.low<=h.next){m ac k bc:Nat}{aa ba:Option Addr}{dk:List Hd}{g:List (List Int)}{B:List Fc}(hg:zm nC 1 h aa m dk g)(hB:Rows fC 2 h ba k B)(hi:∀i:Int,0<=i->i<k->i64 (gt B i).n/\i64 (gt B i).d){Q:Value->af->Prop}
  (TN:∀e h',ic g B e->e≠0->Ext h h'->Q (.tuple #[.int .i64 0,.int .i64 0,.int .i64 e]) h')
  (Qu:∀h' n,ic g B 0->oX g m n->¬rY g B m n->Ext h h'->Q (.tuple #[.int .i64 0,.int .i64 0,.int .i64 6]) h')
  (UX:∀h' n r (c f:Int),ic g B 0->oX g m n->rY g B m n->oC g m n r->c=(Ext.Dv g m n r:Nat)->f=(n:Int)-r->Ext h h'->Q (.tuple #[.int .i64 c,.int .i64 f,.int .i64 0]) h'):call 8 [.agg #[.slice aa m ac,.slice ba k bc]] h Q:=by
 refine hA.aO Tryz.func8 x8.2 (hA.alike _ _ _ rfl) ar (zc ?_);refine zq ?_;refine tV hA ar hg hB hi (fun e h1 he x1=>⟨e,rfl,?_⟩);refine zq ?_;refine br (e≠0) (by rw[bR hA]) (fun c=>?_) (fun c=>?_)<;>refine zc ?_
 ·refine zq ?_
  exact TN e h1 he c x1
 obtain rfl:e=0:=om
 obtain⟨gd,nm⟩:=he.ph;obtain⟨m',n,hM⟩:=gd.YA nm;obtain rfl:m=m':=by have:=hg.len;have:=hM.len;omega
 have zJ:=hg.full (fun y y0 y1=>by rw[hM.row y y0 y1];exact hM.n1);have RV:k=m:=by have:=gd.len;have:=hB.len;have:=hg.len;omega
 refine zq ?_;refine vQ hA hI (x1.aD ar) hM (zJ.ext x1) (hB.ext x1) RV (fun i i0 i1=>gd.turn i i0 (by have:=hB.len;omega)) (fun b h2 hb x2=>⟨b,rfl,?_⟩);have y2:=x1.trans x2;cases b with
 |false=>
  refine zq ?_;rw[show fD false=true by rw[cB hA];rfl];refine zq ?_;exact Qu h2 n he hM (fun q=>by have:=hb.2 q;cases this) y2
 |true=>
  refine zq ?_;rw[show fD true=false by rw[cB hA];rfl];refine zq ?_;refine vJ hA (y2.aD ar) hM (zJ.ext y2) (fun h3 b k2 c2 r ek ir B2 x3=>⟨_,_,_,rfl,?_⟩);have y3:=y2.trans x3;obtain⟨h9,Bh⟩:∃z,z=aH h3 18:=⟨_,rfl⟩;have xb:Ext h3 h9:=by rw[Bh];exact aw hA _ _
  have y9:=y3.trans xb;have B9:=B2.ext xb;have R9:=ct.rows B9.own gC om B9.lt;rw[show(GH g m n k2).length=k2 from bP _ _]at R9;have rm:=ir.lm;have rn:=ir.ln;have m4:=hM.m4;have mm1:=hM.m1;have n4:=hM.n4;obtain⟨K2,W5⟩:∃z:Int,z=k2:=⟨_,rfl⟩;have e0:ofNat k2=K2:=by rw[W5];exact aJ hA k2
  obtain⟨R,eR⟩:∃z:Int,z=r:=⟨_,rfl⟩;have m1:arith .sub .i64 K2 1=R:=by rw[bN hA om om];omega
  obtain⟨x,ex⟩:∃z:Int,z=(Ext.Dv g m n r:Nat):=⟨_,rfl⟩;have gx:gt (GH g m n k2) R=x:=by
   rw[ex,eR];exact fU (fun x=>(Ext.Dv g m n x:Int)) (n:=k2) (i:=r) om
  obtain⟨b',o',e',_,q1⟩:=R9.at (i:=R) om om;cases e';have q1:=q1 0 1 om om;rw[gx]at q1;have r1:rd h9 b (place 0 R 1) 1 [.int .i64 x]:=aE hA q1;obtain⟨N,eN⟩:∃z:Int,z=n:=⟨_,rfl⟩;have e1:ofNat n=N:=by rw[eN];exact aJ hA n
  have Ck:(gt g 0).length=n:=hM.row 0 om (by have:=hM.m1;omega);obtain⟨ab,ao,rfl,Rp,w2⟩:=(zJ.ext y9).jJ (i:=0) om (by have:=hM.m1;omega);have row:=(zJ.ext y9).row 0 om (by have:=hM.m1;omega);have Ah:=row.len;rw[Ck]at Ah;rw[<-Ah]at w2;have r2:rd h9 ab (place ao 0 1) 1 [.slice (gt dk 0).a n (gt dk 0).c]:=aE hA w2
  (refine zq ?_;repeat ((first|rw[e0]|rw[m1]);refine zq ?_))
  rw[<-Bh]
  (refine zq ?_;repeat ((first|rw[e0]|rw[e1]|rw[m1]);refine zq ?_))
  rw[bN hA om om];exact UX h9 n r x (N-R) he hM (hb.1 rfl) ir ex om y9
