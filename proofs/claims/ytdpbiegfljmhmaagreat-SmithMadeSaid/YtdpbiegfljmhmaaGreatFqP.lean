import Derived.Test.YtdpbiegfljmhmaaGreatDetF
import Derived.Test.YtdpbiegfljmhmaaGreatSimD
import Derived.Test.YtdpbiegfljmhmaaGreatFqC
import Derived.Test.YtdpbiegfljmhmaaGreatSlA
set_option linter.unusedSimpArgs false
set_option linter.unusedVariables false
namespace Go.Proofs.YtdpbiegfljmhmaaGreat.Ext
theorem HP{s:Nat}(M:Nat->Nat->Int){a b:Nat}(ha:a<s)(hb:b<s)(e:a≠b):dt s (fun x y=>M (sw a b x) y)=- dt s M:=by
 have h4:s<=4\/5<=s:=om
 rcases h4 with h4|h4
 rotate_left
 ·obtain⟨t,rfl⟩:∃t,s=t+5:=⟨s-5,om⟩
  rfl
 have hs:s=0\/s=1\/s=2\/s=3\/s=4:=om
 have Qx:a=0\/a=1\/a=2\/a=3:=om
 have uP:b=0\/b=1\/b=2\/b=3:=om
 rcases hs with rfl|rfl|rfl|rfl|rfl<;>rcases Qx with rfl|rfl|rfl|rfl<;>rcases uP with rfl|rfl|rfl|rfl<;>first|(exfalso;omega)|(simp only[dt,sw,d4,d3,d2];grind)
theorem Ei{s:Nat}(M:Nat->Nat->Int){a b:Nat}(ha:a<s)(hb:b<s)(e:a≠b)(h:∀y,y<s->M a y=M b y):dt s M=0:=by
 have h1:=HP M ha hb e;have h2:dt s (fun x y=>M (sw a b x) y)=dt s M:=fv fun x y hx hy=>by
  unfold sw;by_cases c:x=a
  ·rw[if_pos c,c];exact(h y hy).symm
  ·rw[if_neg c]
   by_cases d:x=b
   ·rw[if_pos d,d];exact h y hy
   ·rw[if_neg d]
 omega
theorem Gm{s:Nat}(M:Nat->Nat->Int){a:Nat}(ha:a<s)(u v:Nat->Int)(p q:Int):dt s (fun x y=>if x=a then p*u y+q*v y else M x y)=p*dt s (fun x y=>if x=a then u y else M x y)+q*dt s (fun x y=>if x=a then v y else M x y):=by
 have h4:s<=4\/5<=s:=om
 rcases h4 with h4|h4
 rotate_left
 ·obtain⟨t,rfl⟩:∃t,s=t+5:=⟨s-5,om⟩
  simp[dt]
 have hs:s=0\/s=1\/s=2\/s=3\/s=4:=om
 have Qx:a=0\/a=1\/a=2\/a=3:=om
 rcases hs with rfl|rfl|rfl|rfl|rfl<;>rcases Qx with rfl|rfl|rfl|rfl<;>first|(exfalso;omega)|(simp[dt,d4,d3,d2]<;>grind)
theorem MT{s:Nat}(M:Nat->Nat->Int){a:Nat}(ha:a<s)(c:Nat->Int)(U:Nat->Nat->Int):∀n,dt s (fun x y=>if x=a then aP (fun i=>c i*U i y) n else M x y)=aP (fun i=>c i*dt s (fun x y=>if x=a then U i y else M x y)) n
 |0=>by
  have:=Gm M ha (fun _=>0) (fun _=>0) 0 0;simp only[Int.zero_mul,Int.mul_zero,Int.add_zero]at this;exact this
 |n+1=>by
  have:=Gm M ha (fun y=>aP (fun i=>c i*U i y) n) (U n) 1 (c n);simp only[Int.one_mul]at this;show dt s (fun x y=>if x=a then aP (fun i=>c i*U i y) n+c n*U n y else M x y)=aP (fun i=>c i*dt s (fun x y=>if x=a then U i y else M x y)) n+c n*dt s (fun x y=>if x=a then U n y else M x y);rw[this,MT M ha c U n]
theorem qM{d:Int}{f:Nat->Int}:∀n,(∀i,i<n->d∣f i)->d∣aP f n
 |0,_=>Int.dvd_zero d
 |n+1,h=>Int.dvd_add (qM n (fun i hi=>h i om)) (h n om)
def rW(F:Nat->Nat->Int)(m n k:Nat)(d:Int):Prop:=∀r c:Nat->Nat,(∀i,i<k->r i<m)->(∀j,j<k->c j<n)->d∣dt k (fun i j=>F (r i) (c j))
theorem rW.rows{F G:Nat->Nat->Int}{m m' n k:Nat}{d:Int}(h:rW F m n k d)(e:∀i,i<m'->∃y:Nat->Int,∀j,j<n->G i j=aP (fun t=>y t*F t j) m):rW G m' n k d:=by
 have key:∀t,t<=k->∀r c:Nat->Nat,(∀i,i<k->i<k-t->r i<m)->(∀i,i<k->k-t<=i->r i<m')->(∀j,j<k->c j<n)->d∣dt k (fun i j=>if i<k-t then F (r i) (c j)else G (r i) (c j)):=by
  intro t
  induction t with
  |zero=>
   intro _ r c h1 h2 hc;rw[fv (N:=fun i j=>F (r i) (c j)) (fun i j hi hj=>by rw[if_pos om])];exact h r c (fun i hi=>h1 i hi om) hc
  |succ t ih=>
   intro ht r c h1 h2 hc;obtain⟨a,ea⟩:∃a,a=k-(t+1):=⟨_,rfl⟩;obtain⟨y,hy⟩:=e (r a) (h2 a om om);rw[fv (N:=fun i j=>if i=a then aP (fun u=>y u*F u (c j)) m else(fun i j=>if i<k-(t+1)then F (r i) (c j)else G (r i) (c j)) i j) (fun i j hi hj=>by
    by_cases q:i=a
    ·rw[if_pos q,if_neg om,q];exact hy _ (hc j hj)
    ·rw[if_neg q])]
   rw[MT _ om y (fun u j=>F u (c j)) m];refine qM m (fun u hu=>Int.dvd_mul_of_dvd_right ?_);have:=ih om (fun i=>if i=a then u else r i) c (fun i hi hk=>by
    by_cases q:i=a
    ·simp only[if_pos q];exact hu
    ·simp only[if_neg q];exact h1 i hi om) (fun i hi hk=>by
    have:i≠a:=om
    simp only[if_neg this];exact h2 i hi om) hc
   rw[fv (N:=fun i j=>if i=a then F u (c j)else(fun i j=>if i<k-(t+1)then F (r i) (c j)else G (r i) (c j)) i j)]at this
   ·exact this
   ·intro i j hi hj
    by_cases q:i=a
    ·simp only[if_pos q];rw[if_pos om]
    ·simp only[if_neg q]
     by_cases w:i<k-(t+1)
     ·rw[if_pos w,if_pos om]
     ·rw[if_neg w,if_neg om]
 intro r c hr hc;have:=key k (Nat.le_refl _) r c (fun i _ hi=>om) (fun i hi _=>hr i hi) hc;rw[fv (N:=fun i j=>G (r i) (c j)) (fun i j hi hj=>by rw[if_neg om])]at this;exact this
theorem vj{k:Nat}(hk:k<=4):∀(N:Nat) (r:Nat->Nat),4*r 0+3*r 1+2*r 2+r 3<=N->(∀F:Nat->Nat->Int,dt k (fun i j=>F (r i) j)=0)\/∃r':Nat->Nat,(∀i,i+1<k->r' i<r' (i+1))/\(∀m,(∀i,i<k->r i<m)->∀i,i<k->r' i<m)/\∀F:Nat->Nat->Int,(dt k (fun i j=>F (r i) j)).natAbs=(dt k (fun i j=>F (r' i) j)).natAbs:=by
 intro N
 induction N with
 |zero=>
  intro r h;by_cases k2:2<=k
  ·left
   intro F;exact Ei _ (a:=0) (b:=1) om om om (fun y hy=>by rw[show r 0=r 1 by omega])
  ·right
   exact⟨r,fun i hi=>om,fun m hm=>hm,fun F=>rfl⟩
 |succ N ih=>
  intro r h;by_cases c:∃i,i+1<k/\¬r i<r (i+1)
  ·obtain⟨i,hi,hn⟩:=c
   by_cases e:r i=r (i+1)
   ·left
    intro F;exact Ei _ (a:=i) (b:=i+1) om om om (fun y hy=>by rw[e])
   ·have e0:∀x,sw i (i+1) x=if x=i then i+1 else if x=i+1 then i else x:=fun x=>rfl
    have hm:4*r (sw i (i+1) 0)+3*r (sw i (i+1) 1)+2*r (sw i (i+1) 2)+r (sw i (i+1) 3)<=N:=by
     have hi3:i=0\/i=1\/i=2:=om
     rcases hi3 with rfl|rfl|rfl<;>simp[sw]at *<;>omega
    have key:∀F:Nat->Nat->Int,(dt k (fun x j=>F (r x) j)).natAbs=(dt k (fun x j=>F (r (sw i (i+1) x)) j)).natAbs:=fun F=>by
     have:dt k (fun x j=>F (r (sw i (i+1) x)) j)=- dt k (fun x j=>F (r x) j):=HP (fun x j=>F (r x) j) (a:=i) (b:=i+1) (show i<k by omega) hi om;omega
    rcases ih (fun x=>r (sw i (i+1) x)) hm with q|⟨r',a1,a2,a3⟩
    ·left
     intro F;have:=key F;rw[q F]at this;omega
    ·right
     refine⟨r',a1,fun m hm=>a2 m (fun x hx=>hm _ (D7 om hi hx)),fun F=>?_⟩;rw[key F];exact a3 F
  ·right
   refine⟨r,fun i hi=>?_,fun m hm=>hm,fun F=>rfl⟩;exact Classical.byContradiction fun q=>c ⟨i,hi,q⟩
theorem Gn(n:Nat):∀(k f:Nat) (r:Nat->Nat),(∀i,i+1<k->r i<r (i+1))->(∀i,i<k->r i<n)->(0<k->f<=r 0)->(List.range k).map (fun i=>(r i:Int))∈ch n k f
 |0,f,r,_,_,_=>by simp[ch]
 |k+1,f,r,h1,h2,h3=>by
  have ih:=Gn n k (r 0+1) (fun i=>r (i+1)) (fun i hi=>h1 (i+1) om) (fun i hi=>h2 (i+1) om) (fun hk=>h1 0 om);have f0:=h3 om;have l0:=h2 0 om;simp only[ch,List.mem_flatMap,List.mem_map];refine⟨r 0,List.mem_range'_1.2 ⟨f0,om⟩,_,ih,?_⟩;rw[List.range_succ_eq_map,List.map_cons,List.map_map];rfl
theorem Ej(r:Nat->Nat){k i:Nat}(h:i<k):gt ((List.range k).map (fun i=>(r i:Int))) (i:Int)=(r i:Int):=by
 unfold gt;rw[List.getD_eq_getElem?_getD];simp[h]
theorem rW.of{F:Nat->Nat->Int}{m n k:Nat}{d:Int}(hk:k<=4)(h:∀r c:Nat->Nat,(∀i,i+1<k->r i<r (i+1))->(∀j,j+1<k->c j<c (j+1))->(∀i,i<k->r i<m)->(∀j,j<k->c j<n)->d∣dt k (fun i j=>F (r i) (c j))):rW F m n k d:=by
 intro r c hr hc;rcases vj hk _ r (Nat.le_refl _)with q|⟨r',a1,a2,a3⟩
 ·rw[q (fun x j=>F x (c j))];exact Int.dvd_zero d
 ·rcases vj hk _ c (Nat.le_refl _)with q|⟨c',b1,b2,b3⟩
  ·have:=q (fun x j=>F (r j) x)
   rw[Mt (fun i j=>F (r i) (c j))]at this;rw[this];exact Int.dvd_zero d
  ·have h0:=h r' c' a1 b1 (a2 m hr) (b2 n hc)
   have e1:=a3 (fun x j=>F x (c j));have e2:=b3 (fun x j=>F (r' j) x);rw[Mt (fun i j=>F (r' i) (c j)),Mt (fun i j=>F (r' i) (c' j))]at e2;rw[<-Int.dvd_natAbs]at h0 ⊢;rw[e1,e2];exact h0
theorem MU{g:List (List Int)}{m n k:Nat}(hk:k<=4)(d:Nat):d∣Dv g m n k↔rW (fun i j=>el g i j) m n k d:=by
 rw[Q3 g m n k d];constructor
 ·intro h
  refine rW.of hk (fun r c h1 h2 hr hc=>?_);have:=h _ (Gn m k 0 r h1 hr (fun _=>Nat.zero_le _)) _ (Gn n k 0 c h2 hc (fun _=>Nat.zero_le _));unfold D9 at this;rw[fv (N:=fun i j=>el g (r i) (c j)) (fun i j hi hj=>by rw[Ej r hi,Ej c hj])]at this;exact Int.ofNat_dvd_left.2 this
 ·intro h r hr c hc
  have l1:=BP m k 0 r hr;have l2:=BP n k 0 c hc;have i1:=Q1 m k 0 r hr;have i2:=Q1 n k 0 c hc;have mem:∀(l:List Int) (i:Nat),i<l.length->gt l (i:Int)∈l:=fun l i hi=>by
   unfold gt;rw[List.getD_eq_getElem?_getD,show((i:Int)).toNat=i from rfl,List.getElem?_eq_getElem hi];exact List.getElem_mem hi
  have:=h (fun i=>(gt r (i:Int)).toNat) (fun j=>(gt c (j:Int)).toNat) (fun i hi=>by have:=i1 _ (mem r i om);omega) (fun j hj=>by have:=i2 _ (mem c j om);omega);rw[fv (N:=fun i j=>el g (gt r (i:Int)) (gt c (j:Int))) (fun i j hi hj=>by
   have h1:=i1 _ (mem r i om);have h2:=i2 _ (mem c j om);simp only;rw[Int.toNat_of_nonneg h1.1,Int.toNat_of_nonneg h2.1])]at this
  exact Int.ofNat_dvd_left.1 this
end Go.Proofs.YtdpbiegfljmhmaaGreat.Ext
namespace Go.Proofs.YtdpbiegfljmhmaaGreat
open Go.cS
namespace Ext
structure PD(A:Nat->Nat->Int)(m n r:Nat)(p:Nat->Nat):Prop where
 rm:r<=m
 lt:∀i,i<r->p i<n
 inc:∀i j,i<j->j<r->p i<p j
 zero:∀i j,i<r->j<p i->A i j=0
 ne:∀i,i<r->A i (p i)≠0
 low:∀i j,r<=i->i<m->j<n->A i j=0
theorem tv{k:Nat}{r:Nat->Nat}(h:∀i,i+1<k->r i<r (i+1)):∀i,i<k->i<=r i
 |0,_=>Nat.zero_le _
 |i+1,hi=>by have:=tv h i om;have:=h i hi;omega
theorem HQ{s:Nat}(M:Nat->Nat->Int){a:Nat}(ha:a<s)(h:∀j,j<s->M a j=0):dt s M=0:=by
 have:=Gm M ha (fun _=>0) (fun _=>0) 0 0;simp only[Int.zero_mul,Int.add_zero]at this;rw[fv (N:=M) (fun x y hx hy=>by
  by_cases c:x=a
  ·rw[if_pos c,c,h y hy]
  ·rw[if_neg c])]at this
 exact this
theorem PD.over{A:Nat->Nat->Int}{m n r:Nat}{p:Nat->Nat}(e:PD A m n r p){k:Nat}(hk:k<=4)(h:r<k):rW A m n k 0:=by
 refine rW.of hk (fun r' c h1 h2 hr hc=>?_);have:=tv h1 (k-1) om;rw[HQ _ (a:=k-1) om (fun j hj=>e.low (r' (k-1)) (c j) om (hr (k-1) om) (hc j hj))];exact Int.dvd_refl 0
def m8(f:Nat->Int):Nat->Int
 |0=>1
 |n+1=>m8 f n*f n
theorem SZ{s:Nat}(hs:s<=4)(M:Nat->Nat->Int)(h:∀i j,i<s->j<i->M i j=0):dt s M=m8 (fun i=>M i i) s:=by
 have e:s=0\/s=1\/s=2\/s=3\/s=4:=om
 rcases e with rfl|rfl|rfl|rfl|rfl
 ·rfl
 ·simp[dt,m8]
 ·have a:=h 1 0 om om
  simp[dt,m8,d2,a]
 ·have a:=h 1 0 om om
  have b:=h 2 0 om om;have c:=h 2 1 om om;simp[dt,m8,d3,d2,a,b,c];grind
 ·have a:=h 1 0 om om
  have b:=h 2 0 om om;have c:=h 2 1 om om;have d:=h 3 0 om om;have e:=h 3 1 om om;have f:=h 3 2 om om;simp[dt,m8,d4,d3,d2,a,b,c,d,e,f];grind
theorem Ek{f:Nat->Int}:∀n,(∀i,i<n->f i≠0)->m8 f n≠0
 |0,_=>by show(1:Int)≠0;decide
 |n+1,h=>Int.mul_ne_zero (Ek n (fun i hi=>h i om)) (h n om)
theorem PD.minor{A:Nat->Nat->Int}{m n r:Nat}{p:Nat->Nat}(e:PD A m n r p){k:Nat}(hk:k<=4)(h:k<=r):dt k (fun i j=>A i (p j))=m8 (fun i=>A i (p i)) k:=
 SZ hk _ (fun i j hi hj=>e.zero i _ om (e.inc j i hj om))
theorem PD.under{A:Nat->Nat->Int}{m n r:Nat}{p:Nat->Nat}(e:PD A m n r p){k:Nat}(hk:k<=4)(h:k<=r):¬rW A m n k 0:=fun q=>by
 have h1:=q (fun i=>i) p (fun i hi=>by have:=e.rm;omega) (fun j hj=>e.lt j om);rw[e.minor hk h]at h1;exact Ek k (fun i hi=>e.ne i om) (Int.zero_dvd.1 h1)
theorem PD.full{A:Nat->Nat->Int}{m n:Nat}{p:Nat->Nat}(e:PD A m n n p)(hn:n<=4)(d:Nat):rW A m n n (d:Int)↔d∣(m8 (fun i=>A i (p i)) n).natAbs:=by
 constructor
 ·intro q
  have h1:=q (fun i=>i) p (fun i hi=>by have:=e.rm;omega) (fun j hj=>e.lt j hj);rw[e.minor hn (Nat.le_refl _)]at h1;exact Int.ofNat_dvd_left.1 h1
 ·intro q
  have BX:∀c:Nat->Nat,(∀j,j+1<n->c j<c (j+1))->(∀j,j<n->c j<n)->∀j,j<n->c j=j:=fun c h2 hc j hj=>by
   have h1:=tv h2 j hj;have up:∀t,j+t<n->c j+t<=c (j+t):=by
    intro t
    induction t with
    |zero=>intro _;exact Nat.le_refl _
    |succ t ih=>intro ht;have:=ih om;have:=h2 (j+t) om;rw[show j+(t+1)=j+t+1 by omega];omega
   have h3:=up (n-1-j) om;have h4:=hc (j+(n-1-j)) om;omega
  have pid:=BX p (fun j hj=>e.inc j (j+1) om hj) (fun j hj=>e.lt j hj);refine rW.of hn (fun r c h1 h2 hr hc=>?_);have cid:=BX c h2 hc;by_cases lo:∀i,i<n->r i<n
  ·have rid:=BX r h1 lo
   rw[fv (N:=fun i j=>A i (p j)) (fun i j hi hj=>by rw[rid i hi,cid j hj,pid j hj]),e.minor hn (Nat.le_refl _)];exact Int.ofNat_dvd_left.2 q
  ·have:∃i,i<n/\n<=r i:=Classical.byContradiction fun w=>lo fun i hi=>Classical.byContradiction fun v=>w ⟨i,hi,om⟩
   obtain⟨a,ha,W6⟩:=this;rw[HQ _ ha (fun j hj=>e.low (r a) (c j) W6 (hr a ha) (hc j hj))];exact Int.dvd_zero _
end Ext
theorem bJ.ZC{g:List (List Int)}{m n r s:Nat}{A:Nat->Ext.aQ}(a:bJ g m n r s A):Ext.PD A m n r (fun i=>Ext.aj (n+m) (A i)):=by
 have hs:=a.sum;refine⟨om,a.lo,fun i j hi hj=>a.O7.inc i j hi om,fun i j hi hj=>Ext.bz hj,fun i hi=>?_,fun i j h1 h2 h3=>Ext.bz (w:=n+m) (by have:=a.hi i h1 h2;omega)⟩;have:=a.O7.pos i om;omega
theorem bJ.minors{g:List (List Int)}{m n r s:Nat}{A:Nat->Ext.aQ}(a:bJ g m n r s A){k:Nat}(d:Int):Ext.rW (fun i j=>Ext.el g i j) m n k d↔Ext.rW A m n k d:=by
 have ej:∀(i j:Nat),j<n->gM g n i j=Ext.el g i j:=fun i j hj=>by unfold gM;rw[if_pos hj];rfl
 constructor
 ·intro h
  refine h.rows (fun i hi=>?_);obtain⟨y,hy⟩:=a.Ck.le i hi;exact⟨y,fun j hj=>by
   rw[hy j om];exact Ext.aT m (fun t ht=>by rw[ej t j hj])⟩
 ·intro h
  refine h.rows (fun i hi=>?_);obtain⟨y,hy⟩:=a.Ck.ge i hi;exact⟨y,fun j hj=>by rw[<-ej i j hj];exact hy j om⟩
theorem bJ.ZD{g:List (List Int)}{m n r s:Nat}{A:Nat->Ext.aQ}(hM:rV g m n)(a:bJ g m n r s A):vG g m n r:=by
 have e:=a.ZC;have hs:=a.sum;have m4:=hM.m4;have rn:r<=n:=by
  cases r with
  |zero=>exact Nat.zero_le _
  |succ r=>
   have h1:r<=Ext.aj (n+m) (A r):=Ext.tv (k:=r+1) (r:=fun i=>Ext.aj (n+m) (A i)) (fun i hi=>e.inc i (i+1) om hi) r om;have h2:Ext.aj (n+m) (A r)<n:=e.lt r om;omega
 have z:∀k,k<=4->(Ext.Dv g m n k=0↔Ext.rW A m n k 0):=fun k hk=>by
  rw[<-a.minors (k:=k) 0];have:=Ext.MU (g:=g) (m:=m) (n:=n) hk 0;rw[Nat.zero_dvd]at this;exact this
 refine⟨om,rn,fun k hk=>?_,?_⟩
 ·rw[Ne,z (k+1) om]
  exact e.under om om
 ·by_cases c:r=m
  ·exact .inl c
  ·right;right
   rw[z (r+1) om];exact e.over om om
end Go.Proofs.YtdpbiegfljmhmaaGreat
namespace Go.Proofs.YtdpbiegfljmhmaaGreat.Ext
theorem El{f g:Nat->Int}{k:Nat}:∀(n:Nat),k<n->(∀j,j<n->j≠k->f j=g j)->aP f n=aP g n+(f k-g k)
 |0,h,_=>om
 |n+1,h,e=>by
  show aP f n+f n=aP g n+g n+(f k-g k);by_cases c:k=n
  ·subst c
   rw[aT k (fun j hj=>e j om om)];omega
  ·rw[El n om (fun j hj ne=>e j om ne),e n om om]
   omega
theorem mH(x:List Int){k:Nat}(v:Int)(hk:k<x.length)(j:Nat):gt (x.set k v) (j:Int)=if j=k then v else gt x (j:Int):=by
 unfold gt;rw[List.getD_eq_getElem?_getD,List.getD_eq_getElem?_getD,show((j:Int)).toNat=j from rfl,List.getElem?_set];by_cases c:k=j
 ·subst c;simp[hk]
 ·rw[if_neg c,if_neg (fun q=>c q.symm)]
theorem yG{x y:List Int}{n:Nat}(hx:x.length=n)(hy:y.length=n)(h:∀j:Nat,j<n->gt x (j:Int)=gt y (j:Int)):x=y:=by
 apply List.ext_getElem?;intro j;by_cases c:j<n
 ·have:=h j c
  unfold gt at this;rw[List.getD_eq_getElem?_getD,List.getD_eq_getElem?_getD,show((j:Int)).toNat=j from rfl,List.getElem?_eq_getElem om,List.getElem?_eq_getElem om]at this;rw[List.getElem?_eq_getElem om,List.getElem?_eq_getElem om];exact congrArg some this
 ·rw[List.getElem?_eq_none om,List.getElem?_eq_none om]
def Mk(A:Nat->Nat->Int):Nat->Int
 |0=>1
 |k+1=>Mk A k*A k k
structure zJ(A:Nat->Nat->Int)(R:Nat->Int)(size:Int)(n:Nat):Prop where
 up:∀i j,i<n->j<i->A i j=0
 pos:∀i,i<n->0<A i i
 szp:0<size
 szd:Mk A n∣size
 rd:∀k,k<n->Mk A n∣R k
theorem zJ.MV{A:Nat->Nat->Int}{R:Nat->Int}{size:Int}{n:Nat}(t:zJ A R size n){k:Nat}:∀d,k+d<=n->Mk A k∣Mk A (k+d)
 |0,_=>Int.dvd_refl _
 |d+1,h=>Int.dvd_trans (t.MV d om) ⟨A (k+d) (k+d),rfl⟩
theorem zJ.mk_le{A:Nat->Nat->Int}{R:Nat->Int}{size:Int}{n:Nat}(t:zJ A R size n){k:Nat}(h:k<=n):Mk A k∣Mk A n:=by
 have:=t.MV (k:=k) (n-k) om
 rwa [show k+(n-k)=n by omega]at this
def iv(A:Nat->Nat->Int)(n i:Nat)(x:List Int):Int:=aP (fun j=>A i j*gt x (j:Int)) n
def na(A:Nat->Nat->Int)(R:Nat->Int)(size:Int)(n k:Nat)(x:List Int):Int:=(R k-iv A n k x) % size
def jv(A:Nat->Nat->Int)(R:Nat->Int)(size:Int)(n k:Nat)(x:List Int)(t:Nat):List Int:=x.set k (na A R size n k x / A k k+t*(size / A k k))
def ig(A:Nat->Nat->Int)(R:Nat->Int)(size:Int)(n k:Nat)(l:List (List Int)):List (List Int):=l.flatMap (fun x=>(List.range (A k k).toNat).map (jv A R size n k x))
def nf(A:Nat->Nat->Int)(R:Nat->Int)(size:Int)(n:Nat):Nat->List (List Int)
 |0=>[List.replicate n 0]
 |d+1=>ig A R size n (n-1-d) (nf A R size n d)
structure BY(A:Nat->Nat->Int)(R:Nat->Int)(size:Int)(n k:Nat)(x:List Int):Prop where
 len:x.length=n
 zero:∀j:Nat,j<k->gt x (j:Int)=0
 uh:∀j:Nat,k<=j->j<n->0<=gt x (j:Int)/\gt x (j:Int)<size
 eqs:∀i,k<=i->i<n->(R i-iv A n i x) % size=0
section
variable{A:Nat->Nat->Int}{R:Nat->Int}{size:Int}{n k:Nat}
theorem Em(x:List Int)(v:Int)(hx:x.length=n)(hk:k<n)(hz:gt x (k:Int)=0)(i:Nat):iv A n i (x.set k v)=iv A n i x+A i k*v:=by
 unfold iv;rw[El (f:=fun j=>A i j*gt (x.set k v) (j:Int)) (g:=fun j=>A i j*gt x (j:Int)) n hk (fun j hj ne=>by rw[mH x v om,if_neg ne])];show _+(A i k*gt (x.set k v) (k:Int)-A i k*gt x (k:Int))=_;rw[mH x v om,if_pos rfl,hz,Int.mul_zero,Int.sub_zero]
theorem tw(t:zJ A R size n)(hk:k<n){x:List Int}(hd:∀j:Nat,j<n->Mk A (k+1)∣gt x (j:Int)):∃q z,na A R size n k x=A k k*q/\size=A k k*z/\na A R size n k x / A k k=q/\size / A k k=z/\0<=q/\q<z/\Mk A k∣q/\Mk A k∣z:=by
 have ap:=t.pos k hk;have d1:Mk A (k+1)∣size:=Int.dvd_trans (t.mk_le om) t.szd;have d2:Mk A (k+1)∣R k-iv A n k x:=Int.dvd_sub (Int.dvd_trans (t.mk_le om) (t.rd k hk)) (qM n (fun j hj=>Int.dvd_mul_of_dvd_right (hd j hj)));have d3:Mk A (k+1)∣na A R size n k x:=by
  unfold na;rw[Int.emod_def];exact Int.dvd_sub d2 (Int.dvd_mul_of_dvd_left d1)
 obtain⟨c1,e1⟩:=d1;obtain⟨c3,e3⟩:=d3;have Of:size=A k k*(Mk A k*c1):=by rw[e1];show Mk A k*A k k*c1=_;rw[Int.mul_comm (Mk A k),Int.mul_assoc]
 have NV:na A R size n k x=A k k*(Mk A k*c3):=by rw[e3];show Mk A k*A k k*c3=_;rw[Int.mul_comm (Mk A k),Int.mul_assoc]
 have l0:0<=na A R size n k x:=Int.emod_nonneg _ (by have:=t.szp;omega);have l1:na A R size n k x<size:=Int.emod_lt_of_pos _ t.szp;refine⟨Mk A k*c3,Mk A k*c1,NV,Of,by rw[NV];exact Int.mul_ediv_cancel_left _ om,by rw[Of];exact Int.mul_ediv_cancel_left _ om,?_,?_,⟨c3,rfl⟩,⟨c1,rfl⟩⟩
 ·rw[NV]at l0
  exact Int.nonneg_of_mul_nonneg_right l0 ap
 ·have l1':A k k*(Mk A k*c3)<A k k*(Mk A k*c1):=by rw[<-NV,<-Of];exact l1
  exact Int.lt_of_mul_lt_mul_left l1' (Int.le_of_lt ap)
theorem PE(t:zJ A R size n)(hk:k<n){l:List (List Int)}(h1:∀x,x∈l↔BY A R size n (k+1) x)(h2:∀x,x∈l->∀j:Nat,j<n->Mk A (k+1)∣gt x (j:Int)) :
  (∀x,x∈ig A R size n k l↔BY A R size n k x)/\∀x,x∈ig A R size n k l->∀j:Nat,j<n->Mk A k∣gt x (j:Int):=by
 have ap:=t.pos k hk;have mem:∀y,y∈ig A R size n k l↔∃x,x∈l/\∃c:Nat,(c:Int)<A k k/\jv A R size n k x c=y:=fun y=>by
  unfold ig;simp only[List.mem_flatMap,List.mem_map,List.mem_range];constructor
  ·rintro⟨x,hx,c,hc,e⟩;exact⟨x,hx,c,om,e⟩
  ·rintro⟨x,hx,c,hc,e⟩;exact⟨x,hx,c,om,e⟩
 constructor
 ·intro y
  rw[mem y];constructor
  ·rintro⟨x,hx,c,hc,rfl⟩
   have sx:=(h1 x).1 hx;obtain⟨q,z,e1,e2,e3,e4,q0,qz,_,_⟩:=tw t hk (h2 x hx);have lx:=sx.len;have hz:=sx.zero k om;unfold jv;rw[e3,e4];have cz:(c:Int)*z<=(A k k-1)*z:=Int.mul_le_mul_of_nonneg_right om om;have cz0:0<=(c:Int)*z:=Int.mul_nonneg om om;rw[Int.sub_mul,Int.one_mul,<-e2]at cz;refine⟨by rw[List.length_set];exact lx,fun j hj=>?_,fun j j0 j1=>?_,fun i i0 i1=>?_⟩
   ·rw[mH x _ om,if_neg om];exact sx.zero j om
   ·rw[mH x _ om]
    by_cases e:j=k
    ·rw[if_pos e];omega
    ·rw[if_neg e];exact sx.uh j om j1
   ·rw[Em x _ lx hk hz i]
    by_cases e:i=k
    ·subst e
     have e5:na A R size n i x=(R i-iv A n i x) % size:=rfl;have e6:=Int.emod_add_mul_ediv (R i-iv A n i x) size;rw[<-e5,e1]at e6;have e7:R i-(iv A n i x+A i i*(q+c*z))=size*((R i-iv A n i x) / size)-size*c:=by
      rw[Int.mul_add];have:A i i*(c*z)=size*c:=by rw[e2,Int.mul_assoc,Int.mul_comm z]
      omega
     rw[e7,<-Int.mul_sub];exact Int.mul_emod_right _ _
    ·rw[t.up i k i1 om,Int.zero_mul,Int.add_zero]
     exact sx.eqs i om i1
  ·intro sy
   have ly:=sy.len;obtain⟨x,ex⟩:∃x,x=y.set k 0:=⟨_,rfl⟩;have lx:x.length=n:=by rw[ex,List.length_set];exact ly
   have gx:∀j:Nat,gt x (j:Int)=if j=k then 0 else gt y (j:Int):=fun j=>by rw[ex,mH y 0 om]
   have hz:gt x (k:Int)=0:=by rw[gx,if_pos rfl]
   have ey:y=x.set k (gt y (k:Int)):=yG ly (by rw[List.length_set];exact lx) (fun j hj=>by
    rw[mH x _ om,gx];by_cases e:j=k
    ·rw[if_pos e,e]
    ·rw[if_neg e,if_neg e])
   have V2:∀i,iv A n i y=iv A n i x+A i k*gt y (k:Int):=fun i=>by
    exact(congrArg (iv A n i) ey).trans (Em x (gt y (k:Int)) lx hk hz i)
   have sx:BY A R size n (k+1) x:=by
    refine⟨lx,fun j hj=>?_,fun j j0 j1=>?_,fun i i0 i1=>?_⟩
    ·rw[gx]
     by_cases e:j=k
     ·rw[if_pos e]
     ·rw[if_neg e];exact sy.zero j om
    ·rw[gx,if_neg om];exact sy.uh j om j1
    ·have:=sy.eqs i om i1
     rw[V2 i,t.up i k i1 om,Int.zero_mul,Int.add_zero]at this;exact this
   have hx:=(h1 x).2 sx;obtain⟨q,z,e1,e2,e3,e4,q0,qz,_,_⟩:=tw t hk (h2 x hx);obtain⟨y0,y1⟩:=sy.uh k (Nat.le_refl k) hk;obtain⟨v,ev⟩:∃v,v=gt y (k:Int):=⟨_,rfl⟩;have heq:=sy.eqs k (Nat.le_refl k) hk;rw[V2 k,<-ev]at heq;rw[<-ev]at y0 y1 ey;obtain⟨c,hc⟩:∃c,v=q+c*z:=by
    have e6:=Int.emod_add_mul_ediv (R k-iv A n k x) size;have e5:na A R size n k x=(R k-iv A n k x) % size:=rfl;rw[<-e5,e1]at e6;obtain⟨w,hw⟩:=Int.dvd_of_emod_eq_zero heq;refine⟨(R k-iv A n k x) / size-w,Int.eq_of_mul_eq_mul_left (show A k k≠0 by omega) ?_⟩;rw[Int.mul_add,Int.sub_mul,Int.mul_sub];have r1:A k k*((R k-iv A n k x) / size*z)=size*((R k-iv A n k x) / size):=by
     rw[Int.mul_comm ((R k-iv A n k x) / size),<-Int.mul_assoc,<-e2]
    have r2:A k k*(w*z)=size*w:=by rw[Int.mul_comm w,<-Int.mul_assoc,<-e2]
    rw[r1,r2];omega
   have c0:0<=c:=by
    refine Classical.byContradiction fun w=>?_
    have:=Int.mul_le_mul_of_nonneg_right (show c<=-1 by omega) (show 0<=z by omega);omega
   have c1:c<A k k:=by
    refine Classical.byContradiction fun w=>?_
    have:=Int.mul_le_mul_of_nonneg_right (show A k k<=c by omega) (show 0<=z by omega);rw[<-e2]at this;omega
   refine⟨x,hx,c.toNat,om,?_⟩;unfold jv;rw[e3,e4,show((c.toNat:Nat):Int)=c by omega,<-hc];exact ey.symm
 ·intro y hy j hj
  obtain⟨x,hx,c,hc,rfl⟩:=(mem y).1 hy;obtain⟨q,z,e1,e2,e3,e4,q0,qz,dq,dz⟩:=tw t hk (h2 x hx);unfold jv;rw[e3,e4,mH x _ (by have:=((h1 x).1 hx).len;omega)];by_cases e:j=k
  ·rw[if_pos e]
   exact Int.dvd_add dq (Int.dvd_mul_of_dvd_right dz)
  ·rw[if_neg e]
   exact Int.dvd_trans ⟨A k k,rfl⟩ (h2 x hx j hj)
theorem Gp(t:zJ A R size n)(hk:k<n):∀{l:List (List Int)},(∀x,x∈l->BY A R size n (k+1) x)->(∀x,x∈l->∀j:Nat,j<n->Mk A (k+1)∣gt x (j:Int))->l.Nodup->(ig A R size n k l).Nodup/\((ig A R size n k l).length:Int)=l.length*A k k:=by
 have ap:=t.pos k hk;intro l
 induction l with
 |nil=>intro _ _ _;exact⟨List.nodup_nil,by simp[ig]⟩
 |cons x l ih=>
  intro h1 h2 hn;obtain⟨i1,i2⟩:=ih (fun y hy=>h1 y (List.mem_cons_of_mem _ hy)) (fun y hy=>h2 y (List.mem_cons_of_mem _ hy)) (List.nodup_cons.1 hn).2;have sx:=h1 x (List.mem_cons_self ..);obtain⟨q,z,e1,e2,e3,e4,q0,qz,_,_⟩:=tw t hk (h2 x (List.mem_cons_self ..));have back:∀y,BY A R size n (k+1) y->∀v:Int,(y.set k v).set k 0=y:=fun y sy v=>by
   rw[List.set_set];exact yG (by rw[List.length_set];exact sy.len) sy.len (fun j hj=>by
    rw[mH y 0 (by have:=sy.len;omega)];by_cases e:j=k
    ·rw[if_pos e,e,sy.zero k om]
    ·rw[if_neg e])
  have hd:ig A R size n k (x :: l)=(List.range (A k k).toNat).map (jv A R size n k x)++ig A R size n k l:=by unfold ig;rw[List.flatMap_cons]
  rw[hd];constructor
  ·rw[List.nodup_append]
   refine⟨?_,i1,fun a ha b hb e=>?_⟩
   ·refine List.Pairwise.map _ (fun c d ne e=>?_) List.nodup_range
    apply ne;have g1:gt (jv A R size n k x c) (k:Int)=gt (jv A R size n k x d) (k:Int):=by rw[e]
    unfold jv at g1;rw[mH x _ (by have:=sx.len;omega),mH x _ (by have:=sx.len;omega),if_pos rfl,if_pos rfl,e3,e4]at g1;have:(c:Int)*z=d*z:=om
    have:=Int.eq_of_mul_eq_mul_right (show z≠0 by omega) this;omega
   ·obtain⟨c,_,rfl⟩:=List.mem_map.1 ha
    unfold ig at hb;obtain⟨y,hy,hb⟩:=List.mem_flatMap.1 hb;obtain⟨d,_,rfl⟩:=List.mem_map.1 hb;have:=congrArg (fun w=>w.set k 0) e;simp only[jv]at this;rw[back x sx,back y (h1 y (List.mem_cons_of_mem _ hy))]at this;exact(List.nodup_cons.1 hn).1 (this ▸ hy)
  ·rw[List.length_append,List.length_map,List.length_range,List.length_cons]
   push_cast
   rw[i2,Int.add_mul,Int.one_mul,Int.toNat_of_nonneg om];omega
theorem uB(t:zJ A R size n):∀d,d<=n->(∀x,x∈nf A R size n d↔BY A R size n (n-d) x)/\(∀x,x∈nf A R size n d->∀j:Nat,j<n->Mk A (n-d)∣gt x (j:Int))/\(nf A R size n d).Nodup/\((nf A R size n d).length:Int)*Mk A (n-d)=Mk A n
 |0,_=>by
  have gz:∀j:Nat,gt (List.replicate n (0:Int)) (j:Int)=0:=fun j=>by
   unfold gt;rw[List.getD_eq_getElem?_getD,show((j:Int)).toNat=j from rfl,List.getElem?_replicate];split<;>rfl
  refine⟨fun x=>?_,fun x hx j hj=>?_,by simp[nf],by simp[nf]⟩
  ·show x∈[List.replicate n 0]↔_
   rw[List.mem_singleton];constructor
   ·rintro rfl
    exact⟨List.length_replicate,fun j _=>gz j,fun j j0 j1=>om,fun i i0 i1=>om⟩
   ·intro s
    exact yG s.len List.length_replicate (fun j hj=>by rw[gz,s.zero j om])
  ·rw[List.mem_singleton.1 (show x∈[List.replicate n 0]from hx),gz]
   exact Int.dvd_zero _
 |d+1,h=>by
  obtain⟨i1,i2,i3,i4⟩:=uB t d om;have e:n-d=n-1-d+1:=om
  rw[e]at i1 i2 i4;obtain⟨a1,a2⟩:=PE t (k:=n-1-d) om i1 i2;obtain⟨b1,b2⟩:=Gp t (k:=n-1-d) om (fun x hx=>(i1 x).1 hx) i2 i3;have e2:n-(d+1)=n-1-d:=om
  rw[e2];refine⟨a1,a2,b1,?_⟩;show((ig A R size n (n-1-d) (nf A R size n d)).length:Int)*Mk A (n-1-d)=_;rw[b2,<-i4];show _=(nf A R size n d).length*(Mk A (n-1-d)*A (n-1-d) (n-1-d));rw[Int.mul_assoc,Int.mul_comm (A _ _)]
end
end Go.Proofs.YtdpbiegfljmhmaaGreat.Ext
namespace Go.Proofs.YtdpbiegfljmhmaaGreat
open Go.cS
set_option maxRecDepth 100000
structure rX(B:List Fc)(i:Nat)(W:Int):Prop where
 pos:0<W
 le:W<=((60 ^ i:Nat):Int)
 dvd:∀j:Nat,j<i->(gt B (j:Int)).d∣W
theorem rX.start(B:List Fc):rX B 0 1:=⟨by decide,by decide,fun j hj=>om⟩
theorem rX.step{B:List Fc}{i:Nat}{W d:Int}(w:rX B i W)(ed:d=(gt B (i:Int)).d)(d1:1<=d)(d60:d<=60):rX B (i+1) (W*(d / (Int.gcd W d:Int))):=by
 have hp:=w.pos;have g0:0<Int.gcd W d:=Int.gcd_pos_of_ne_zero_left d om;have gd:(Int.gcd W d:Int)∣d:=Int.gcd_dvd_right W d;have gw:(Int.gcd W d:Int)∣W:=Int.gcd_dvd_left W d;obtain⟨c,hc⟩:=gd;obtain⟨v,hv⟩:=gw;obtain⟨G,eG⟩:∃s:Int,s=(Int.gcd W d:Int):=⟨_,rfl⟩;rw[<-eG]at hc hv ⊢;have G0:0<G:=om
 have eq:d / G=c:=by rw[hc];exact Int.mul_ediv_cancel_left c om
 rw[eq];have c0:0<c:=by
  by_cases q:0<c
  ·exact q
  ·have:=Int.mul_le_mul_of_nonneg_left (show c<=0 by omega) (Int.le_of_lt G0)
   rw[Int.mul_zero]at this;omega
 have cd:c<=d:=by
  rw[hc];have:=Int.mul_le_mul_of_nonneg_right (show 1<=G by omega) (Int.le_of_lt c0);rw[Int.one_mul]at this;exact this
 refine⟨Int.mul_pos hp c0,?_,fun j hj=>?_⟩
 ·have h1:W*c<=((60 ^ i:Nat):Int)*60:=Int.mul_le_mul w.le om (Int.le_of_lt c0) (Int.natCast_nonneg _)
  rw[Nat.pow_succ];omega
 ·by_cases e:j=i
  ·rw[e,<-ed]
   exact⟨v,by rw[hc,hv,Int.mul_assoc,Int.mul_assoc,Int.mul_comm v c]⟩
  ·exact Int.dvd_mul_of_dvd_left (w.dvd j om)
def zK(B:List Fc)(W:Int)(k:Nat):List Int:=kW (fun i=>(gt B (i:Int)).n*(W / (gt B (i:Int)).d)) k
theorem PF{B:List Fc}{W:Int}{k i:Nat}(h:i<k):gt (zK B W k) (i:Int)=(gt B (i:Int)).n*(W / (gt B (i:Int)).d):=jq _ h
theorem rX.part{B:List Fc}{k:Nat}{W:Int}(w:rX B k W)(ht:∀i:Int,0<=i->i<k->ct (gt B i)/\(gt B i).d<=60){i:Nat}(hi:i<k):gA (gt B (i:Int)).n (gt B (i:Int)).d (rq ((gt B (i:Int)).n*(W / (gt B (i:Int)).d)) W)/\0<=(gt B (i:Int)).n*(W / (gt B (i:Int)).d)/\(gt B (i:Int)).n*(W / (gt B (i:Int)).d)<W/\(gt B (i:Int)).n*(W / (gt B (i:Int)).d)<=W:=by
 obtain⟨⟨ok,n0,n1⟩,_⟩:=ht i om om;obtain⟨c,hc⟩:=w.dvd i hi;obtain⟨f,ef⟩:∃f,f=gt B (i:Int):=⟨_,rfl⟩;rw[<-ef]at ok n0 n1 hc ⊢;have f1:=ok.is.den;have wp:=w.pos;have ec:W / f.d=c:=by rw[hc];exact Int.mul_ediv_cancel_left c om
 rw[ec];have c0:0<c:=by
  by_cases q:0<c
  ·exact q
  ·have:=Int.mul_le_mul_of_nonneg_left (show c<=0 by omega) (show 0<=f.d by omega)
   rw[Int.mul_zero]at this;omega
 have h1:f.n*c<f.d*c:=Int.mul_lt_mul_of_pos_right n1 c0;refine⟨?_,Int.mul_nonneg n0 om,om,om⟩;have:=ok.is;rw[hc,wh om];exact this
end Go.Proofs.YtdpbiegfljmhmaaGreat
namespace Go.Proofs.YtdpbiegfljmhmaaGreat.Ext
structure Pl where
 β:Nat->Nat->Nat
 K:Nat->Nat->Nat
 μ:Nat->Nat->Nat
 U:Nat->Nat
end Go.Proofs.YtdpbiegfljmhmaaGreat.Ext
namespace Go.Proofs.YtdpbiegfljmhmaaGreat
open Go.cS
namespace Ext
def bC:Nat->Nat
 |0=>9|1=>162|2=>52488|_=>157464
def bU:Nat->Nat
 |0=>1|1=>18|2=>5832|_=>157464
def uU:Nat->Nat
 |0=>0|1=>162|2=>8503218|3=>1338959222370|_=>210839243950492050
def P1(n:Nat):Pl:=⟨fun a c=>if c<n then bC a else bU a,fun a c=>if c<n then bC (a+1)else bU (a+1),fun a c=>if c<n then bC (a+1)else bU (a+1),uU⟩
end Ext
namespace Ext
def b2(s b:Nat):Nat->Nat
 |0=>b
 |a+1=>if a+1<s then 2*(b2 s b a*b2 s b a)else b2 s b a
def u2(s b:Nat):Nat->Nat
 |0=>0
 |a+1=>u2 s b a+u2 s b a*b2 s b (a+1)+b2 s b (a+1)
end Ext
namespace Ext
theorem yH(f:Nat->Int)(r:Nat):∀s,aP f (r+s)=aP f r+aP (fun i=>f (r+i)) s
 |0=>by show aP f r=aP f r+0;omega
 |s+1=>by
  show aP f (r+s)+f (r+s)=aP f r+(aP (fun i=>f (r+i)) s+f (r+s));rw[yH f r s];omega
theorem Sp.rest{n m r s:Nat}{F:Nat->aQ}{v:aQ}(hs:r+s=m)(top:A8 (n+m) r F)(lead:∀y,y<r->aj (n+m) (F y)<n)(low:∀i c,r<=i->i<m->c<n->F i c=0)(hv:Sp (n+m) m F v)(hz:∀c,c<n->v c=0):Sp m s (fun y j=>F (r+y) (n+j)) (fun j=>v (n+j)):=by
 obtain⟨y,hy⟩:=hv;have z:∀i,i<r->y i=0:=by
  intro i
  induction i using Nat.strongRecOn with
  |_ i ih=>
  intro hi;have p1:=lead i hi;have h1:=hy (aj (n+m) (F i)) om;rw[hz _ p1,IB (i:=i) m om (fun k hk=>by rw[ih k hk om];omega) (fun k h1 h2=>by
   by_cases c:k<r
   ·rw[bz (w:=n+m) (v:=F k) (top.inc i k h1 c)];omega
   ·rw[low k _ om h2 p1];omega)]at h1
  have h2:=top.pos i hi;rcases Int.mul_eq_zero.1 h1.symm with q|q
  ·exact q
  ·omega
 refine⟨fun i=>y (r+i),fun j hj=>?_⟩;have h1:=hy (n+j) om;rw[<-hs,yH]at h1;rw[aT (g:=fun _=>0) r (fun i hi=>by rw[z i hi];omega),qt,Int.zero_add]at h1;exact h1
end Ext
set_option maxRecDepth 100000
theorem HS{α β:Type}(G:α->List β)(B:Nat)(h:∀x,(G x).length<=B):∀l:List α,(l.flatMap G).length<=l.length*B
 | []=>by simp
 |x :: l=>by
  have:=HS G B h l;have:=h x;rw[List.flatMap_cons,List.length_append,List.length_cons,Nat.add_mul];omega
theorem rV.uniq{g:List (List Int)}{m n m' n':Nat}(a:rV g m n)(b:rV g m' n'):m=m'/\n=n':=by
 have h1:=a.len;have h2:=b.len;have h3:=a.row 0 om (by have:=a.m1;omega);have h4:=b.row 0 om (by have:=b.m1;omega);omega
theorem ng(f:Nat->Nat->Int)(m:Nat):∀n,Ext.aP (fun i=>Ext.aP (fun j=>f i j) m) n=Ext.aP (fun j=>Ext.aP (fun i=>f i j) n) m
 |0=>by
  show(0:Int)=Ext.aP (fun j=>0) m;rw[Ext.qt]
 |n+1=>by
  show Ext.aP (fun i=>Ext.aP (fun j=>f i j) m) n+Ext.aP (fun j=>f n j) m=Ext.aP (fun j=>Ext.aP (fun i=>f i j) n+f n j) m;rw[ng f m n,Ext.sP]
theorem iV(c:Int)(f:Nat->Int)(n:Nat):Ext.aP (fun k=>f k*c) n=Ext.aP f n*c:=by
 rw[Int.mul_comm,<-Ext.jV];exact Ext.aT n (fun k _=>Int.mul_comm _ _)
theorem Gq{g:List (List Int)}{n i j:Nat}(h:j<n):gM g n i j=Ext.el g i j:=by unfold gM;rw[if_pos h];rfl
theorem Gr{g:List (List Int)}{n i j:Nat}:gM g n i (n+j)=if j=i then 1 else 0:=by
 unfold gM;rw[if_neg om];by_cases c:j=i
 ·rw[if_pos c,if_pos om]
 ·rw[if_neg c,if_neg om]
theorem Az{g:List (List Int)}{n m:Nat}{y:Nat->Int}{j:Nat}(hj:j<m):Ext.aP (fun i=>y i*gM g n i (n+j)) m=y j:=by
 rw[Ext.pv m hj (fun k _ ne=>by rw[Gr,if_neg om,Int.mul_zero])];simp only[Gr,if_true,Int.mul_one]
theorem bJ.tail{g:List (List Int)}{m n r s:Nat}{A:Nat->Ext.aQ}(a:bJ g m n r s A){i:Nat}(hi:i<m){j:Nat}(hj:j<n):A i j=Ext.aP (fun t=>A i (n+t)*Ext.el g t j) m:=by
 obtain⟨y,hy⟩:=a.Ck.le i hi;have ht:∀t,t<m->A i (n+t)=y t:=fun t ht=>by rw[hy (n+t) om,Az ht]
 rw[hy j om];exact Ext.aT m (fun t h=>by rw[ht t h,Gq hj])
def HT(g:List (List Int))(m n:Nat)(u:Nat->Int):Prop:=∀j,j<n->Ext.aP (fun i=>u i*Ext.el g i j) m=0
theorem bJ.rel{g:List (List Int)}{m n r s:Nat}{A:Nat->Ext.aQ}(a:bJ g m n r s A){i:Nat}(hi:i<s):HT g m n (fun j=>A (r+i) (n+j)):=fun j hj=>by
 have hs:=a.sum;rw[<-a.tail (i:=r+i) om hj];exact Ext.bz (w:=n+m) (by have:=a.hi (r+i) om om;omega)
theorem bJ.PG{g:List (List Int)}{m n r s:Nat}{A:Nat->Ext.aQ}(a:bJ g m n r s A){u:Nat->Int}(hu:HT g m n u):∃y:Nat->Int,∀j,j<m->u j=Ext.aP (fun i=>y i*A (r+i) (n+j)) s:=by
 have hs:=a.sum;have hv:Ext.Sp (n+m) m A (fun c=>Ext.aP (fun i=>u i*gM g n i c) m):=Ext.Sp.le a.Ck.ge ⟨u,fun j hj=>rfl⟩;have:=Ext.Sp.rest hs ⟨fun i hi=>a.O7.lt i om,fun i hi=>a.O7.pos i om,fun i j hi hj=>a.O7.inc i j hi om⟩ a.lo (fun i c h1 h2 h3=>Ext.bz (w:=n+m) (by have:=a.hi i h1 h2;omega)) hv (fun c hc=>by
  have:=hu c hc;rw[<-this];exact Ext.aT m (fun k _=>by rw[Gq hc]))
 obtain⟨y,hy⟩:=this;refine⟨y,fun j hj=>?_⟩;rw[<-hy j hj];exact(Az hj).symm
def oL(B:List Fc)(W:Int)(i:Nat):Int:=(gt B (i:Int)).n*(W / (gt B (i:Int)).d)
def mn(g:List (List Int))(B:List Fc)(m n:Nat):Prop:=∀W,rX B m W->∀u,HT g m n u->Ext.aP (fun i=>u i*oL B W i) m % W=0
theorem bJ.holds{g:List (List Int)}{m n r s:Nat}{A:Nat->Ext.aQ}(a:bJ g m n r s A){B:List Fc}(ht:∀i:Int,0<=i->i<m->ct (gt B i)/\(gt B i).d<=60){W:Int}(w:rX B m W):(∀i,i<s->Ext.aP (fun j=>A (r+i) (n+j)*oL B W j) m % W=0)↔mn g B m n:=by
 constructor
 ·intro h W' w' u hu
  obtain⟨y,hy⟩:=a.PG hu;have wp:=w.pos;have wp':=w'.pos;have h1:W∣Ext.aP (fun i=>u i*oL B W i) m:=by
   have e:Ext.aP (fun i=>u i*oL B W i) m=Ext.aP (fun i=>y i*Ext.aP (fun j=>A (r+i) (n+j)*oL B W j) m) s:=by
    rw[Ext.aT m (g:=fun j=>Ext.aP (fun i=>y i*(A (r+i) (n+j)*oL B W j)) s) (fun j hj=>by
     rw[hy j hj,<-iV];exact Ext.aT s (fun i _=>by rw[Int.mul_assoc])),<-ng]
    exact Ext.aT s (fun i _=>by rw[Ext.jV])
   rw[e];exact Ext.qM s (fun i hi=>Int.dvd_mul_of_dvd_right (Int.dvd_of_emod_eq_zero (h i hi)))
  have e2:Ext.aP (fun i=>u i*oL B W' i) m*W=Ext.aP (fun i=>u i*oL B W i) m*W':=by
   rw[<-iV,<-iV];refine Ext.aT m (fun i hi=>?_);have q1:=(w.part ht hi).1;have q2:=(w'.part ht hi).1;have q3:=q1.uniq q2;have q4:=(MD (show W≠0 by omega) (show W'≠0 by omega)).1 q3;show u i*oL B W' i*W=u i*oL B W i*W';have q5:oL B W i*W'=oL B W' i*W:=q4;rw[Int.mul_assoc,<-q5,Int.mul_assoc]
  obtain⟨c,hc⟩:=h1;rw[hc]at e2;have:Ext.aP (fun i=>u i*oL B W' i) m=W'*c:=by
   have e3:W*(Ext.aP (fun i=>u i*oL B W' i) m)=W*(W'*c):=by
    rw[Int.mul_comm,e2,Int.mul_assoc,Int.mul_comm c W']
   exact Int.eq_of_mul_eq_mul_left om e3
  rw[this];exact Int.mul_emod_right W' c
 ·intro h i hi
  exact h W w _ (a.rel hi)
theorem bJ.small{g:List (List Int)}{m n r s:Nat}{A:Nat->Ext.aQ}(hM:rV g m n)(a:bJ g m n r s A){i:Nat}(hi:i<m)(j:Nat):(A i j).natAbs<=629856:=
 a.O7.small a.Ck (fun i hi j=>by
  unfold gM;split
  ·exact hM.nine _ _
  ·split<;>decide) hM.m4 hi j
variable{F:aZ}{call head arith a0 d0 dH k0 o0 s0 t0 u0 ofNat v0 place w0 nz x0 rd wr z0 next k1 o1 s1 t1 u1 v1 z1 f2 n2 part p2 s2 putAt fresh az aG wrote bX lt ne jX t2 v2 yn uh y2 z2 f3 g3 j3:_}(hA:AP F ⟨call,head,arith,a0,d0,dH,k0,o0,s0,t0,u0,ofNat,v0,place,w0,nz,x0,rd,wr,z0,next,k1,o1,s1,t1,u1,v1,z1,f2,n2,part,p2,s2,putAt,fresh,az,aG,wrote,bX,lt,ne,jX,t2,v2,yn,uh,y2,z2,f3,g3,j3⟩)
include hA
theorem En{h:af}(aq:h.low<=h.next){x:Fc}(hn:i64 x.n)(hd:i64 x.d){Q:Value->af->Prop}(hQ:∀b h',(b=true↔ct x)->Ext h h'->Q (.bool b) h'):call 17 [.agg #[.int .i64 x.n,.int .i64 x.d]] h Q:=by
 obtain⟨n,d⟩:=x;simp only at hn hd;refine hA.aN Tryz.func17 x17.2 (hA.alike _ _ _ rfl) aq (zc ?_);refine kX hA aq hn hd (fun e h' k x1=>?_);refine⟨e,rfl,?_⟩;refine zq ?_;refine br (e=0) (by rw[de hA]) (fun c=>?_) (fun c=>?_)<;>refine zc ?_
 rotate_left
 ·refine zq ?_
  refine hQ false h' ⟨(fun q=>by cases q),fun q=>?_⟩ x1;rcases k with ⟨k,_⟩|⟨_,k⟩
  ·exact absurd k c
  ·exact absurd q.1 k
 have ok:okF n d:=by rcases k with ⟨_,k⟩|⟨k,_⟩;exact k;omega
 refine zq ?_;refine br (0<=n) (by rw[bY hA]) (fun c2=>?_) (fun c2=>?_)<;>refine zc ?_
 rotate_left
 ·refine zq ?_
  exact hQ false h' ⟨(fun q=>by cases q),fun q=>absurd q.2.1 c2⟩ x1
 refine zq ?_;rw[aA hA];exact hQ _ h' ⟨fun q=>⟨ok,c2,of_decide_eq_true q⟩,fun q=>decide_eq_true q.2.2⟩ x1
theorem Jz{h:af}{m ac k bc:Nat}{aa ba:Option Addr}{dA:List Hd}{g:List (List Int)}(hg:zb nC 1 h aa m dA g)(hm:m<=1000){Q:Exit->SS->Prop}
  (fO:(∃i:Int,0<=i/\i<m/\4<(gt g i).length)->∀env,Q .ret ⟨(2,.int .i64 4) :: env,1,[(0,[.slice aa m ac,.slice ba k bc])],h⟩)
  (cW:(∀i:Int,0<=i->i<m->(gt g i).length<=4)->Q (.exit 0) ⟨[(1,.pointer (some ⟨0,0,some 0⟩))],1,[(0,[.slice aa m ac,.slice ba k bc])],h⟩) :
  ∀(d i:Nat) (I:Int),m-i<=d->i<=m->I=i->(∀j:Int,0<=j->j<i->(gt g j).length<=4)->
   head 6 4 1 ⟨[(1,.pointer (some ⟨0,0,some 0⟩)),(3,.int .i64 I)],1,[(0,[.slice aa m ac,.slice ba k bc])],h⟩ Q:=by
 intro d;obtain⟨M,eM⟩:∃z:Int,z=m:=⟨_,rfl⟩;have e0:ofNat m=M:=by rw[eM];exact aI hA m
 induction d with
 |zero=>
  intro i I hd hi eI hp;refine hA.ar Tryz.func6 rA (zc ?_)
  (refine zq ?_;repeat ((first|rw[e0]);refine zq ?_))
  refine br (I<M) (by rw[aA hA]) (fun q=>om) (fun _=>?_)<;>refine zc ?_;exact cW (fun j j0 j1=>hp j j0 om)
 |succ d ih=>
 intro i I hd hi eI hp;by_cases ci:i<m
 rotate_left
 ·refine hA.ar Tryz.func6 rA (zc ?_)
  (refine zq ?_;repeat ((first|rw[e0]);refine zq ?_))
  refine br (I<M) (by rw[aA hA]) (fun q=>om) (fun _=>?_)<;>refine zc ?_;exact cW (fun j j0 j1=>hp j j0 om)
 obtain⟨b,o,rfl,hb,q1⟩:=hg.mG (i:=I) om om;obtain⟨ra,era⟩:∃z,z=(gt dA I).a:=⟨_,rfl⟩;obtain⟨rn,EN⟩:∃z,z=(gt dA I).n:=⟨_,rfl⟩;obtain⟨rc,vH⟩:∃z,z=(gt dA I).c:=⟨_,rfl⟩;rw[<-era,<-EN,<-vH]at q1;have r1:rd h b (place o I 1) 1 [.slice ra rn rc]:=aD hA q1;have Xw:(gt g I).length=rn:=by rw[EN];exact hg.uA om om
 obtain⟨R,eR⟩:∃z:Int,z=rn:=⟨_,rfl⟩;have e1:ofNat rn=R:=by rw[eR];exact aI hA rn
 refine hA.ar Tryz.func6 rA (zc ?_)
 (refine zq ?_;repeat ((first|rw[e0]);refine zq ?_))
 refine br (I<M) (by rw[aA hA]) (fun _=>?_) (fun q=>om)<;>refine zc ?_
 (refine zq ?_;repeat ((first|rw[e1]);refine zq ?_))
 refine br (4<R) (by rw[dc hA]) (fun c4=>?_) (fun c4=>?_)<;>refine zc ?_
 ·refine zq ?_
  exact fO ⟨I,om,om,om⟩ _
 refine zq ?_;rw[aF hA om om];exact ih (i+1) (I+1) om om om (fun j j0 j1=>by
  by_cases e:j=I
  ·rw[e];omega
  ·exact hp j j0 om)
theorem PH{h:af}{m ac k bc:Nat}{aa ba:Option Addr}{dA:List Hd}{g:List (List Int)}{I:Int}(hg:zb nC 1 h aa m dA g)(I0:0<=I)(I1:I<m)(hn:(gt g I).length<=1000){Q:Exit->SS->Prop}
  (fO:(∃j:Int,0<=j/\j<(gt g I).length/\¬(-9<=gt (gt g I) j/\gt (gt g I) j<=9))->∀env,Q .ret ⟨(2,.int .i64 8) :: env,31,[(0,[.slice aa m ac,.slice ba k bc])],h⟩)
  (cW:(∀j:Int,0<=j->j<(gt g I).length->-9<=gt (gt g I) j/\gt (gt g I) j<=9)->Q (.exit 4) ⟨[(1,.pointer (some ⟨0,0,some 0⟩)),(4,.int .i64 I)],31,[(0,[.slice aa m ac,.slice ba k bc])],h⟩) :
  ∀(d j:Nat) (J:Int),(gt g I).length-j<=d->j<=(gt g I).length->J=j->(∀x:Int,0<=x->x<j->-9<=gt (gt g I) x/\gt (gt g I) x<=9)->
   head 6 16 31 ⟨[(1,.pointer (some ⟨0,0,some 0⟩)),(4,.int .i64 I),(5,.int .i64 J)],31,[(0,[.slice aa m ac,.slice ba k bc])],h⟩ Q:=by
 intro d;obtain⟨b,o,rfl,hb,q1⟩:=hg.mG (i:=I) I0 I1;obtain⟨ra,era⟩:∃z,z=(gt dA I).a:=⟨_,rfl⟩;obtain⟨rn,EN⟩:∃z,z=(gt dA I).n:=⟨_,rfl⟩;obtain⟨rc,vH⟩:∃z,z=(gt dA I).c:=⟨_,rfl⟩;have row:=(hg.row I I0 I1).2;have V3:(gt g I).length=rn:=by rw[EN];exact hg.uA I0 I1
 rw[<-era,<-EN]at row;rw[<-era,<-EN,<-vH]at q1;have r1:rd h b (place o I 1) 1 [.slice ra rn rc]:=aD hA q1;obtain⟨w,ew⟩:∃z,z=gt g I:=⟨_,rfl⟩;rw[<-ew]at row hn fO cW V3 ⊢;have Xw:w.length=rn:=V3;obtain⟨R,eR⟩:∃z:Int,z=rn:=⟨_,rfl⟩;have e1:ofNat rn=R:=by rw[eR];exact aI hA rn
 induction d with
 |zero=>
  intro j J hd hi eI hp;refine hA.ar Tryz.func6 rA (zc ?_)
  (refine zq ?_;repeat ((first|rw[e1]);refine zq ?_))
  refine br (J<R) (by rw[aA hA]) (fun q=>om) (fun _=>?_)<;>refine zc ?_;exact cW (fun x j0 j1=>hp x j0 om)
 |succ d ih=>
 intro j J hd hi eI hp;by_cases ci:j<rn
 rotate_left
 ·refine hA.ar Tryz.func6 rA (zc ?_)
  (refine zq ?_;repeat ((first|rw[e1]);refine zq ?_))
  refine br (J<R) (by rw[aA hA]) (fun q=>om) (fun _=>?_)<;>refine zc ?_;exact cW (fun x j0 j1=>hp x j0 om)
 obtain⟨b2,o2,rfl,vw,q2⟩:=(row om).at (i:=J) om om;have q3:=q2 0 1 om om;obtain⟨x,ex⟩:∃z,z=gt w J:=⟨_,rfl⟩;rw[<-ex]at q3;have r2:rd h b2 (place o2 J 1) 1 [.int .i64 x]:=aD hA q3;refine hA.ar Tryz.func6 rA (zc ?_)
 (refine zq ?_;repeat ((first|rw[e1]);refine zq ?_))
 refine br (J<R) (by rw[aA hA]) (fun _=>?_) (fun q=>om)<;>refine zc ?_
 (refine zq ?_;repeat ((first|rw[e1]);refine zq ?_))
 refine br (x < -9) (by rw[aA hA]) (fun c4=>?_) (fun c4=>?_)<;>refine zc ?_
 ·refine zq ?_
  exact fO ⟨J,om,om,om⟩ _
 (refine zq ?_;repeat ((first|rw[e1]);refine zq ?_))
 refine br (9<x) (by rw[dc hA]) (fun c5=>?_) (fun c5=>?_)<;>refine zc ?_
 ·refine zq ?_
  exact fO ⟨J,om,om,om⟩ _
 refine zq ?_;rw[aF hA om om];exact ih (j+1) (J+1) om om om (fun y j0 j1=>by
  by_cases e:y=J
  ·rw[e,<-ex];omega
  ·exact hp y j0 om)
theorem MW{h0:af}(fw:h0.low<=h0.next){m ac k bc:Nat}{aa ba:Option Addr}{dA:List Hd}{g:List (List Int)}{B:List Fc}(hg:zb nC 1 h0 aa m dA g)(hB:Rows fC 2 h0 ba k B)(m0:0<m)(hm:m<=1000)(T2:k=m)(hl:∀i:Int,0<=i->i<m->(gt g i).length<=1000)(hi:∀i:Int,0<=i->i<k->i64 (gt B i).n/\i64 (gt B i).d){Q:Exit->SS->Prop}
  (fO:(∃i:Int,0<=i/\i<m/\¬((gt g i).length=(gt g 0).length/\(ct (gt B i)/\(gt B i).d<=60)/\∀j:Int,0<=j->j<(gt g i).length->-9<=gt (gt g i) j/\gt (gt g i) j<=9))->∀env kn T h',Ext h0 h'->Q .ret ⟨(2,.int .i64 8) :: env,kn,T,h'⟩)
  (cW:(∀i:Int,0<=i->i<m->(gt g i).length=(gt g 0).length/\(ct (gt B i)/\(gt B i).d<=60)/\∀j:Int,0<=j->j<(gt g i).length->-9<=gt (gt g i) j/\gt (gt g i) j<=9)->∀kn T h',Ext h0 h'->Q (.exit 2) ⟨[],kn,T,h'⟩) :
  ∀(d i:Nat) (I:Int) (h:af),m-i<=d->i<=m->I=i->Ext h0 h->(∀j:Int,0<=j->j<i->(gt g j).length=(gt g 0).length/\(ct (gt B j)/\(gt B j).d<=60)/\∀x:Int,0<=x->x<(gt g j).length->-9<=gt (gt g j) x/\gt (gt g j) x<=9)->
   head 6 11 1 ⟨[(1,.pointer (some ⟨0,0,some 0⟩)),(4,.int .i64 I)],1,[(0,[.slice aa m ac,.slice ba k bc])],h⟩ Q:=by
 intro d;obtain⟨M,eM⟩:∃z:Int,z=m:=⟨_,rfl⟩;have e0:ofNat m=M:=by rw[eM];exact aI hA m
 induction d with
 |zero=>
  intro i I h hd zZ eI x hp;refine hA.ar Tryz.func6 rA (zc ?_)
  (refine zq ?_;repeat ((first|rw[e0]);refine zq ?_))
  refine br (I<M) (by rw[aA hA]) (fun q=>om) (fun _=>?_)<;>refine zc ?_;exact cW (fun j j0 j1=>hp j j0 om) _ _ h x
 |succ d ih=>
 intro i I h hd zZ eI x hp;by_cases ci:i<m
 rotate_left
 ·refine hA.ar Tryz.func6 rA (zc ?_)
  (refine zq ?_;repeat ((first|rw[e0]);refine zq ?_))
  refine br (I<M) (by rw[aA hA]) (fun q=>om) (fun _=>?_)<;>refine zc ?_;exact cW (fun j j0 j1=>hp j j0 om) _ _ h x
 have aq:h.low<=h.next:=x.aC fw;have xb:Ext h (aG h 30):=au hA _ _;have gb:=hg.ext (x.trans xb);obtain⟨b,o,rfl,hb,q1⟩:=gb.mG (i:=I) om om;obtain⟨b',o',e',_,q0⟩:=gb.mG (i:=0) om om;cases e';obtain⟨b2,o2,rfl,vw,q2⟩:=(hB.ext (x.trans xb)).at (i:=I) om om;obtain⟨y,ey⟩:∃z,z=gt B I:=⟨_,rfl⟩;obtain⟨i1,i2⟩:=hi I om om;have q3:=q2 0 2 om om;have q4:=q2 1 1 om om;rw[<-ey]at q3 q4 i1 i2;obtain⟨yn,yd⟩:=y;have r3:rd (aG h 30) b2 (place o2 I 2) 2 [.int .i64 yn,.int .i64 yd]:=aD hA q3;have r4:rd (aG h 30) b2 (bX (place o2 I 2) 1) 1 [.int .i64 yd]:=FY hA q4;obtain⟨ra,era⟩:∃z,z=(gt dA I).a:=⟨_,rfl⟩;obtain⟨rn,EN⟩:∃z,z=(gt dA I).n:=⟨_,rfl⟩;obtain⟨rc,vH⟩:∃z,z=(gt dA I).c:=⟨_,rfl⟩;obtain⟨sa,SP⟩:∃z,z=(gt dA 0).a:=⟨_,rfl⟩;obtain⟨sn,MH⟩:∃z,z=(gt dA 0).n:=⟨_,rfl⟩;obtain⟨sc,SQ⟩:∃z,z=(gt dA 0).c:=⟨_,rfl⟩;rw[<-era,<-EN,<-vH]at q1;rw[<-SP,<-MH,<-SQ]at q0;have r1:rd (aG h 30) b (place o I 1) 1 [.slice ra rn rc]:=aD hA q1;have r0:rd (aG h 30) b (place o 0 1) 1 [.slice sa sn sc]:=aD hA q0;have Xw:(gt g I).length=rn:=by rw[EN];exact hg.uA om om
 have Cj:(gt g 0).length=sn:=by rw[MH];exact hg.uA om om
 have y8:=hl I om om;have hl0':=hl 0 om om;obtain⟨R,eR⟩:∃z:Int,z=rn:=⟨_,rfl⟩;have e1:ofNat rn=R:=by rw[eR];exact aI hA rn
 obtain⟨S,eS⟩:∃z:Int,z=sn:=⟨_,rfl⟩;have e2:ofNat sn=S:=by rw[eS];exact aI hA sn
 refine hA.ar Tryz.func6 rA (zc ?_)
 (refine zq ?_;repeat ((first|rw[e0]);refine zq ?_))
 refine br (I<M) (by rw[aA hA]) (fun _=>?_) (fun q=>om)<;>refine zc ?_
 (refine zq ?_;repeat ((first|rw[e1]|rw[e2]);refine zq ?_))
 refine br (R≠S) (by rw[bT hA]) (fun c4=>?_) (fun c4=>?_)<;>refine zc ?_
 ·refine zq ?_
  exact fO ⟨I,om,om,fun q=>c4 (by have:=q.1;omega)⟩ _ _ _ _ (x.trans xb)
 refine zq ?_;refine En hA (x:=⟨yn,yd⟩) (aB hA _) i1 i2 (fun t h1 ht x1=>⟨t,rfl,?_⟩);obtain⟨h2,Hz⟩:∃z,z=az (aG h 30) h1:=⟨_,rfl⟩;have x2:Ext h h2:=by rw[Hz];exact cI hA aq xb x1
 have g2:=(hB.ext (x.trans x2)).at (i:=I) om om;obtain⟨b3,o3,e3,_,q5⟩:=g2;cases e3;have q6:=q5 1 1 om om;rw[<-ey]at q6;have r5:rd h2 b2 (bX (place o2 I 2) 1) 1 [.int .i64 yd]:=FY hA q6;refine zq ?_;have fp:∀b0,b0<h.next->jX false (wrote (aG h 30) h1) false b0 (bX (next h) 30):=fun b0 mL=>by
  rw[Bz hA];refine⟨rfl,?_,.inr (by rw[dj hA,cM hA];omega)⟩;rw[By hA];exact cF (by
   have q1:=x1.vD;have q2:(aG h 30).next<=(fresh (aG h 30)).next:=by rw[jQ hA];exact Nat.le_refl _
   have q3:(fresh (aG h 30)).low=(aG h 30).next:=by rw[jQ hA];rfl
   have:Nat.min (fresh (aG h 30)).low (fresh (aG h 30)).next<=h1.low:=q1;rw[q3]at this;exact Nat.le_trans (Nat.le_min.2 ⟨Nat.le_refl _,q2⟩) this)
 cases t with
 |false=>
  have nt:¬ct ⟨yn,yd⟩:=fun q=>by have:=ht.2 q;cases this
  rw[show dH false=true by rw[bZ hA];rfl];refine zq ?_;first|rw[<-Hz]|skip
  exact fO ⟨I,om,om,fun q=>nt (by rw[ey];exact q.2.1.1)⟩ _ _ _ _ (x.trans x2)
 |true=>
  have tt:ct ⟨yn,yd⟩:=ht.1 rfl;rw[show dH true=false by rw[bZ hA];rfl];refine zc ?_;rw[<-Hz];refine zq ?_;refine br (60<yd) (by rw[dc hA]) (fun c5=>?_) (fun c5=>?_)<;>refine zc ?_
  ·refine zq ?_
   exact fO ⟨I,om,om,fun q=>by rw[<-ey]at q;have:=q.2.1.2;simp only at this;omega⟩ _ _ _ _ (x.trans x2)
  refine zq ?_;have gx:=hg.ext (x.trans x2);refine PH hA gx (I:=I) om om om (fun c env=>?_) (fun c=>?_) (gt g I).length 0 0 om om rfl (fun j j0 j1=>om)
  ·obtain⟨j,j0,j1,j2⟩:=c
   exact fO ⟨I,om,om,fun q=>j2 (q.2.2 j j0 j1)⟩ _ _ _ _ (x.trans x2)
  refine zq ?_;rw[aF hA om om];exact ih (i+1) (I+1) h2 om om om (x.trans x2) (fun j j0 j1=>by
   by_cases e:j=I
   ·rw[e,<-ey];exact⟨om,⟨tt,by show yd<=60;omega⟩,c⟩
   ·exact hp j j0 om)
theorem JA{h:af}(aq:h.low<=h.next){m ac k bc:Nat}{aa ba:Option Addr}{dA:List Hd}{g:List (List Int)}{B:List Fc}(hg:zb nC 1 h aa m dA g)(hB:Rows fC 2 h ba k B)(hi:∀i:Int,0<=i->i<k->i64 (gt B i).n/\i64 (gt B i).d){Q:Value->af->Prop}
  (hQ:∀e h',ju g B e->Ext h h'->Q (.int .i64 e) h'):call 6 [.agg #[.slice aa m ac,.slice ba k bc]] h Q:=by
 have hgm:=hg.len;have hbk:=hB.len;obtain⟨M,eM⟩:∃z:Int,z=m:=⟨_,rfl⟩;have e1:ofNat m=M:=by rw[eM];exact aI hA m
 obtain⟨K,eK⟩:∃z:Int,z=k:=⟨_,rfl⟩;have e2:ofNat k=K:=by rw[eK];exact aI hA k
 refine hA.aN Tryz.func6 rA (hA.alike _ _ _ rfl) aq (zc ?_)
 (refine zq ?_;repeat ((first|rw[e1]);refine zq ?_))
 refine br (4<M) (by rw[dc hA]) (fun c=>?_) (fun c=>?_)<;>refine zc ?_
 ·refine zq ?_
  exact hQ _ _ (.inl ⟨.inl om,rfl⟩) (.refl h)
 have VU:m<=1000:=om
 (refine zq ?_;repeat ((first|rw[e1]);refine zq ?_))
 refine Jz hA hg VU (fun q env=>?_) (fun VW=>?_) m 0 0 om om rfl (fun j j0 j1=>om)
 ·refine zq ?_
  obtain⟨i,i0,i1,i2⟩:=q;exact hQ _ _ (.inl ⟨.inr ⟨i,i0,om,i2⟩,rfl⟩) (.refl h)
 have nm:¬Gj g:=fun q=>by
  rcases q with q|⟨i,i0,i1,i2⟩
  ·omega
  ·have:=VW i i0 om;omega
 have hl:∀i:Int,0<=i->i<m->(gt g i).length<=1000:=fun i i0 i1=>by have:=VW i i0 i1;omega
 have bad:¬Good g B->∀h',Ext h h'->Q (.int .i64 8) h':=fun q h' x=>hQ _ _ (.inr (.inr ⟨nm,q,rfl⟩)) x
 (refine zq ?_;repeat ((first|rw[e1]);refine zq ?_))
 refine br (M=0) (by rw[de hA]) (fun c0=>?_) (fun c0=>?_)<;>refine zc ?_
 ·refine zq ?_
  exact bad (fun q=>by have:=q.m1;omega) h (.refl h)
 obtain⟨b,o,rfl,hb,q0⟩:=hg.mG (i:=0) om om;obtain⟨sa,SP⟩:∃z,z=(gt dA 0).a:=⟨_,rfl⟩;obtain⟨sn,MH⟩:∃z,z=(gt dA 0).n:=⟨_,rfl⟩;obtain⟨sc,SQ⟩:∃z,z=(gt dA 0).c:=⟨_,rfl⟩;rw[<-SP,<-MH,<-SQ]at q0;have r0:rd h b (place o 0 1) 1 [.slice sa sn sc]:=aD hA q0;have Cj:(gt g 0).length=sn:=by rw[MH];exact hg.uA om om
 have fw:=hl 0 om om;obtain⟨S,eS⟩:∃z:Int,z=sn:=⟨_,rfl⟩;have e3:ofNat sn=S:=by rw[eS];exact aI hA sn
 (refine zq ?_;repeat ((first|rw[e3]);refine zq ?_))
 refine br (S=0) (by rw[de hA]) (fun cs=>?_) (fun cs=>?_)<;>refine zc ?_
 ·refine zq ?_
  exact bad (fun q=>by have:=q.n1;omega) h (.refl h)
 (refine zq ?_;repeat ((first|rw[e1]|rw[e2]);refine zq ?_))
 refine br (K≠M) (by rw[bT hA]) (fun ck=>?_) (fun ck=>?_)<;>refine zc ?_
 ·refine zq ?_
  exact bad (fun q=>by have:=q.len;omega) h (.refl h)
 (refine zq ?_;repeat ((first|rw[e1]);refine zq ?_))
 refine MW hA aq hg hB om VU om hl hi (fun q env kn T h' x=>?_) (fun Jx kn T h' x=>?_) m 0 0 h om om rfl (.refl h) (fun j j0 j1=>om)
 ·refine zq ?_
  obtain⟨i,i0,i1,i2⟩:=q;exact bad (fun w=>i2 ⟨w.row i i0 om,w.turn i i0 om,w.SL i i0 om⟩) h' x
 ·refine zq ?_
  exact hQ _ _ (.inr (.inl ⟨nm,⟨om,om,om,fun i i0 i1=>(Jx i i0 om).1,fun i i0 i1=>(Jx i i0 om).2.2,fun i i0 i1=>(Jx i i0 om).2.1⟩,rfl⟩)) x
theorem S0{h0:af}(fw:h0.low<=h0.next){k bc:Nat}{ba:Option Addr}{B:List Fc}(hB:Rows fC 2 h0 ba k B)(k4:k<=4)(ht:∀i:Int,0<=i->i<k->ct (gt B i)/\(gt B i).d<=60){M:Int}(eM:M=k){Q:Exit->SS->Prop}
  (hQ:∀W h' ,rX B k W->Ext h0 h'->Q (.exit 0) ⟨[(0,.slice ba k bc),(2,.slice none 0 0),(3,.int .i64 W)],0,[],h'⟩) :
  ∀(d i:Nat) (I W:Int) (h:af),k-i<=d->i<=k->I=i->rX B i W->Ext h0 h->
   head 28 3 0 ⟨[(0,.slice ba k bc),(2,.slice none 0 0),(3,.int .i64 W),(9,.slice ba k bc),(10,.int .i64 M),(11,.int .i64 I)],0,[],h⟩ Q:=by
 refine oG (fun d ih=>?_);intro i I W h hd hi eI w x;by_cases ci:i<k
 rotate_left
 ·refine hA.ar Tryz.func28 x28.2 (zc ?_)
  refine br (I<M) (by rw[aA hA]) (fun q=>om) (fun _=>?_)<;>refine zc ?_;obtain rfl:i=k:=om
  exact hQ W h w x
 obtain⟨d,rfl⟩:∃k,d=k+1:=⟨d-1,om⟩
 replace ih:=ih d rfl
 obtain⟨⟨ok,n0,n1⟩,d60⟩:=ht i om om;obtain⟨bb,bo,rfl,_,w1⟩:=(hB.ext x).at (i:=I) om om;have w1:=w1 0 2 om om;obtain⟨f,ef⟩:∃f,f=gt B (i:Int):=⟨_,rfl⟩;rw[eI,<-ef,<-eI]at w1;rw[<-ef]at ok n0 n1 d60;have f1:=ok.is.den;have w2:=w.step (d:=f.d) (by rw[ef]) f1 d60;have wp:=w.pos;have wl:=w.le;have p60:(60:Nat) ^ i<=60 ^ 4:=Nat.pow_le_pow_right om om;obtain⟨fn,fd⟩:=f;simp only at *;have r1:rd h bb (place bo I 2) 2 [.int .i64 fn,.int .i64 fd]:=aD hA w1;have ZE:=w2.le;have ZF:=w2.pos;have p61:(60:Nat) ^ (i+1)<=60 ^ 4:=Nat.pow_le_pow_right om om;have gpos:0<Int.gcd W fd:=Int.gcd_pos_of_ne_zero_left fd om;refine hA.ar Tryz.func28 x28.2 (zc ?_);refine br (I<M) (by rw[aA hA]) (fun _=>?_) (fun q=>om)<;>refine zc ?_;refine zq ?_;refine HM hA (x.aC fw) (a:=W) (b:=fd) om om (fun h' x'=>⟨_,rfl,?_⟩);obtain⟨G,eG⟩:∃s:Int,s=(Int.gcd W fd:Int):=⟨_,rfl⟩;rw[<-eG]at w2 ZE ZF ⊢;have m1:arith .quo .i64 fd G=fd / G:=ve hA om om om;obtain⟨c,ec⟩:∃s,s=fd / G:=⟨_,rfl⟩;rw[<-ec]at w2 ZE ZF m1;obtain⟨W2,XB⟩:∃s,s=W*c:=⟨_,rfl⟩;rw[<-XB]at w2 ZE ZF;have m2:arith .mul .i64 W c=W2:=by rw[XB];exact jn hA (by rw[<-XB];omega) (by rw[<-XB];omega)
 (refine zq ?_;repeat ((first|rw[m1]|rw[m2]);refine zq ?_))
 rw[aF hA om om];exact ih (i+1) (I+1) W2 h' om om om w2 (x.trans x')
omit hA in
theorem JB(B:List Fc)(W:Int)(k:Nat):zK B W (k+1)=zK B W k++[(gt B (k:Int)).n*(W / (gt B (k:Int)).d)]:=tq _ _
theorem S1{h0:af}(fw:h0.low<=h0.next){k bc:Nat}{ba:Option Addr}{B:List Fc}(hB:Rows fC 2 h0 ba k B)(k4:k<=4)(ht:∀i:Int,0<=i->i<k->ct (gt B i)/\(gt B i).d<=60){M W:Int}(eM:M=k)(w:rX B k W){Q:Exit->SS->Prop}
  (hQ:∀h' qa qc,oD h' 1 qa k qc ((zK B W k).flatMap nC)->ky h0.next qa->Ext h0 h'->Q (.exit 2) ⟨[(2,.slice qa k qc),(3,.int .i64 W)],0,[],h'⟩) :
  ∀(d i:Nat) (I:Int) (h:af) (qa:Option Addr) (qc:Nat),k-i<=d->i<=k->I=i->oD h 1 qa i qc ((zK B W i).flatMap nC)->ky h0.next qa->Ext h0 h->
   head 28 9 0 ⟨[(2,.slice qa i qc),(3,.int .i64 W),(25,.slice ba k bc),(26,.int .i64 M),(27,.int .i64 I)],0,[],h⟩ Q:=by
 refine oG (fun d ih=>?_);intro i I h qa qc hd hi eI t hf x;by_cases ci:i<k
 rotate_left
 ·refine hA.ar Tryz.func28 x28.2 (zc ?_)
  refine br (I<M) (by rw[aA hA]) (fun q=>om) (fun _=>?_)<;>refine zc ?_;obtain rfl:i=k:=om
  exact hQ h qa qc t hf x
 obtain⟨d,rfl⟩:∃k,d=k+1:=⟨d-1,om⟩
 replace ih:=ih d rfl
 obtain⟨⟨ok,n0,n1⟩,d60⟩:=ht i om om;obtain⟨bb,bo,rfl,_,w1⟩:=(hB.ext x).at (i:=I) om om;have w1:=w1 0 2 om om;obtain⟨pq,p0,p1,_⟩:=w.part ht ci;have es:=JB B W i;have wp:=w.pos;have wl:=w.le;have p60:(60:Nat) ^ k<=60 ^ 4:=Nat.pow_le_pow_right om om;obtain⟨f,ef⟩:∃f,f=gt B (i:Int):=⟨_,rfl⟩;rw[eI,<-ef,<-eI]at w1;rw[<-ef]at ok n0 n1 d60 es p0 p1;have f1:=ok.is.den;obtain⟨fn,fd⟩:=f;simp only at *;have r1:rd h bb (place bo I 2) 2 [.int .i64 fn,.int .i64 fd]:=aD hA w1;have m1:arith .quo .i64 W fd=W / fd:=ve hA om om om;obtain⟨c,ec⟩:∃s,s=W / fd:=⟨_,rfl⟩;rw[<-ec]at m1 es p0 p1;obtain⟨q,eq⟩:∃s,s=fn*c:=⟨_,rfl⟩;rw[<-eq]at es p0 p1;have m2:arith .mul .i64 fn c=q:=by rw[eq];exact jn hA (by rw[<-eq];omega) (by rw[<-eq];omega)
 obtain⟨h9,iT⟩:∃z,z=aG h 11:=⟨_,rfl⟩;refine hA.ar Tryz.func28 x28.2 (zc ?_);refine br (I<M) (by rw[aA hA]) (fun _=>?_) (fun q=>om)<;>refine zc ?_;refine zq ?_;rw[<-iT]
 (refine zq ?_;repeat ((first|rw[m1]|rw[m2]);refine zq ?_))
 refine PI hA SD gV om Hu fw x om iT (v:=q) t hf om (fun a' c' h' vt Ob x'=>?_);obtain⟨hZ,VC⟩:∃z,z=az (putAt h9 (bX (next h) 8) 1 (nC q)) h':=⟨_,rfl⟩;rw[<-VC]at vt x';have ZG:hZ=az (putAt h9 (bX (next h) 8) 1 [.int .i64 q]) h':=VC;rw[<-es]at vt;obtain⟨i1,MX⟩:∃z,z=i+1:=⟨_,rfl⟩;rw[<-MX]at vt ⊢;refine zc ?_;rw[<-ZG];refine zq ?_;rw[aF hA om om];exact ih i1 (I+1) hZ a' c' om om om vt Ob x'
theorem AA{h:af}(aq:h.low<=h.next){k bc:Nat}{ba:Option Addr}{B:List Fc}(hB:Rows fC 2 h ba k B)(k4:k<=4)(ht:∀i:Int,0<=i->i<k->ct (gt B i)/\(gt B i).d<=60){Q:Value->af->Prop}
  (hQ:∀W h' qa qc,rX B k W->oD h' 1 qa k qc ((zK B W k).flatMap nC)->Ext h h'->Q (.tuple #[.slice qa k qc,.int .i64 W]) h'):call 28 [.slice ba k bc] h Q:=by
 obtain⟨M,eM⟩:∃s:Int,s=k:=⟨_,rfl⟩;have e0:ofNat k=M:=by rw[eM];exact aI hA k
 refine hA.aN Tryz.func28 x28.2 (hA.alike _ _ _ rfl) aq (zc ?_)
 (refine zq ?_;repeat ((first|rw[e0]);refine zq ?_))
 refine S0 hA aq hB k4 ht eM (fun W h1 w x=>?_) k 0 0 1 h om om rfl (rX.start B) (.refl h)
 (refine zq ?_;repeat ((first|rw[e0]);refine zq ?_))
 refine S1 hA aq hB k4 ht eM w (fun h2 qa qc t hf x2=>?_) k 0 0 h1 none 0 om om rfl (.nil _ _) (.none _) x;refine zq ?_;exact hQ W h2 qa qc w t x2
