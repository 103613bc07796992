import Derived.Test.YtdpbiegfljmhmaaSmAl
import Derived.Test.YtdpbiegfljmhmaaDetF
import Derived.Test.YtdpbiegfljmhmaaSmB
import Derived.Test.YtdpbiegfljmhmaaFqD
import Derived.Test.YtdpbiegfljmhmaaDetG
set_option linter.unusedSimpArgs false
set_option linter.unusedVariables false
namespace Go.Proofs.Ytdpbiegfljmhmaa
open Go.cL
set_option maxRecDepth 100000
structure lU{α:Type}[Inhabited α](le:α->α->Prop)(L:List α)(a b i j:Int):Prop where
 i0:a<i
 j1:j<b
 ij:i<=j+1
 low:∀p:Int,a<p->p<i->le (gt L p) (gt L a)
theorem lU.left{α:Type}[Inhabited α]{le:α->α->Prop}{L:List α}{a b i j:Int}(h:lU le L a b i j)(c:i<=j)(w:le (gt L i) (gt L a)):lU le L a b (i+1) j:=
 ⟨by have:=h.i0;omega,h.j1,om,fun p p0 p1=>by
  by_cases e:p=i
  ·rw[e];exact w
  ·exact h.low p p0 om⟩
theorem lU.right{α:Type}[Inhabited α]{le:α->α->Prop}{L:List α}{a b i j:Int}(h:lU le L a b i j)(c:i<=j):lU le L a b i (j-1):=⟨h.i0,by have:=h.j1;omega,om,h.low⟩
theorem lU.swap{α:Type}[Inhabited α]{le:α->α->Prop}{L:List α}{a b i j:Int}(a0:0<=a)(hb:b<=L.length)(h:lU le L a b i j)(c:i<j)(w:le (gt L j) (gt L a)):lU le (dy L i j) a b (i+1) (j-1):=by
 have hi:=h.i0;have hj:=h.j1;have g:∀k:Int,0<=k->gt (dy L i j) k=if k=j then gt L i else if k=i then gt L j else gt L k:=fun k k0=>je L om om om om k0
 refine⟨om,om,om,fun p p0 p1=>?_⟩;rw[g p om,g a a0,if_neg (show ¬p=j by omega),if_neg (show ¬a=j by omega),if_neg (show ¬a=i by omega)];by_cases e:p=i
 ·rw[if_pos e];exact w
 ·rw[if_neg e];exact h.low p p0 om
structure wE(h0 h:af)(b sb:Nat)(v:Value):Prop where
 own:aJ h sb 1 [v]
 lt:sb<h.next
 cJ:h0.next<=sb
 ne:sb≠b
theorem wE.more{h0 h h':af}{b sb:Nat}{v:Value}(t:wE h0 h b sb v)(e:Ext h h'):wE h0 h' b sb v:=⟨t.own.ext e t.lt,Nat.lt_of_lt_of_le t.lt e.next,t.cJ,t.ne⟩
theorem wE.put{h0 h:af}{b sb n:Nat}{v:Value}{L:List LE}(t:wE h0 h b sb v)(d:bB h0 h b n L)(w:Value):∃h',h.write sb 0 [w]=some h'/\wE h0 h' b sb w/\bB h0 h' b n L:=by
 obtain⟨h',w1,w2,w3⟩:=t.own.write (o:=0) (vs:=[w]) (by simp);exact⟨h',w1,⟨w2,by rw[w3.next];exact t.lt,t.cJ,t.ne⟩,⟨w3.ext d.ext t.cJ,w3.own d.own (Ne.symm t.ne),d.cJ,by rw[w3.next];exact d.lt,d.len,d.base,d.ok,d.gB⟩⟩
end Go.Proofs.Ytdpbiegfljmhmaa
namespace Go.Proofs.Ytdpbiegfljmhmaa.Ext
theorem I8{s:Nat}(M:Nat->Nat->Int){a b:Nat}(ha:a<s)(hb:b<s)(e:a≠b):dt s (fun x y=>M (sw a b x) y)=- dt s M:=by
 have h4:s<=4\/5<=s:=om
 rcases h4 with h4|h4
 rotate_left
 ·obtain⟨t,rfl⟩:∃t,s=t+5:=⟨s-5,om⟩
  rfl
 have hs:s=0\/s=1\/s=2\/s=3\/s=4:=om
 have So:a=0\/a=1\/a=2\/a=3:=om
 have vl:b=0\/b=1\/b=2\/b=3:=om
 rcases hs with rfl|rfl|rfl|rfl|rfl<;>rcases So with rfl|rfl|rfl|rfl<;>rcases vl with rfl|rfl|rfl|rfl<;>first|(exfalso;omega)|(simp only[dt,sw,d4,d3,d2];grind)
theorem Fl{s:Nat}(M:Nat->Nat->Int){a b:Nat}(ha:a<s)(hb:b<s)(e:a≠b)(h:∀y,y<s->M a y=M b y):dt s M=0:=by
 have h1:=I8 M ha hb e;have h2:dt s (fun x y=>M (sw a b x) y)=dt s M:=fu fun x y hx hy=>by
  unfold sw;by_cases c:x=a
  ·rw[if_pos c,c];exact(h y hy).symm
  ·rw[if_neg c]
   by_cases d:x=b
   ·rw[if_pos d,d];exact h y hy
   ·rw[if_neg d]
 omega
theorem Hv{s:Nat}(M:Nat->Nat->Int){a:Nat}(ha:a<s)(u v:Nat->Int)(p q:Int):dt s (fun x y=>if x=a then p*u y+q*v y else M x y)=p*dt s (fun x y=>if x=a then u y else M x y)+q*dt s (fun x y=>if x=a then v y else M x y):=by
 have h4:s<=4\/5<=s:=om
 rcases h4 with h4|h4
 rotate_left
 ·obtain⟨t,rfl⟩:∃t,s=t+5:=⟨s-5,om⟩
  simp[dt]
 have hs:s=0\/s=1\/s=2\/s=3\/s=4:=om
 have So:a=0\/a=1\/a=2\/a=3:=om
 rcases hs with rfl|rfl|rfl|rfl|rfl<;>rcases So with rfl|rfl|rfl|rfl<;>first|(exfalso;omega)|(simp[dt,d4,d3,d2]<;>grind)
theorem Ok{s:Nat}(M:Nat->Nat->Int){a:Nat}(ha:a<s)(c:Nat->Int)(U:Nat->Nat->Int):∀n,dt s (fun x y=>if x=a then aT (fun i=>c i*U i y) n else M x y)=aT (fun i=>c i*dt s (fun x y=>if x=a then U i y else M x y)) n
 |0=>by
  have:=Hv M ha (fun _=>0) (fun _=>0) 0 0;simp only[Int.zero_mul,Int.mul_zero,Int.add_zero]at this;exact this
 |n+1=>by
  have:=Hv M ha (fun y=>aT (fun i=>c i*U i y) n) (U n) 1 (c n);simp only[Int.one_mul]at this;show dt s (fun x y=>if x=a then aT (fun i=>c i*U i y) n+c n*U n y else M x y)=aT (fun i=>c i*dt s (fun x y=>if x=a then U i y else M x y)) n+c n*dt s (fun x y=>if x=a then U n y else M x y);rw[this,Ok M ha c U n]
theorem rj{d:Int}{f:Nat->Int}:∀n,(∀i,i<n->d∣f i)->d∣aT f n
 |0,_=>Int.dvd_zero d
 |n+1,h=>Int.dvd_add (rj n (fun i hi=>h i om)) (h n om)
def sB(F:Nat->Nat->Int)(m n k:Nat)(d:Int):Prop:=∀r c:Nat->Nat,(∀i,i<k->r i<m)->(∀j,j<k->c j<n)->d∣dt k (fun i j=>F (r i) (c j))
theorem sB.rows{F G:Nat->Nat->Int}{m m' n k:Nat}{d:Int}(h:sB F m n k d)(e:∀i,i<m'->∃y:Nat->Int,∀j,j<n->G i j=aT (fun t=>y t*F t j) m):sB G m' n k d:=by
 have key:∀t,t<=k->∀r c:Nat->Nat,(∀i,i<k->i<k-t->r i<m)->(∀i,i<k->k-t<=i->r i<m')->(∀j,j<k->c j<n)->d∣dt k (fun i j=>if i<k-t then F (r i) (c j)else G (r i) (c j)):=by
  intro t
  induction t with
  |zero=>
   intro _ r c h1 h2 hc;rw[fu (N:=fun i j=>F (r i) (c j)) (fun i j hi hj=>by rw[if_pos om])];exact h r c (fun i hi=>h1 i hi om) hc
  |succ t ih=>
   intro ht r c h1 h2 hc;obtain⟨a,ea⟩:∃a,a=k-(t+1):=⟨_,rfl⟩;obtain⟨y,hy⟩:=e (r a) (h2 a om om);rw[fu (N:=fun i j=>if i=a then aT (fun u=>y u*F u (c j)) m else(fun i j=>if i<k-(t+1)then F (r i) (c j)else G (r i) (c j)) i j) (fun i j hi hj=>by
    by_cases q:i=a
    ·rw[if_pos q,if_neg om,q];exact hy _ (hc j hj)
    ·rw[if_neg q])]
   rw[Ok _ om y (fun u j=>F u (c j)) m];refine rj m (fun u hu=>Int.dvd_mul_of_dvd_right ?_);have:=ih om (fun i=>if i=a then u else r i) c (fun i hi hk=>by
    by_cases q:i=a
    ·simp only[if_pos q];exact hu
    ·simp only[if_neg q];exact h1 i hi om) (fun i hi hk=>by
    have:i≠a:=om
    simp only[if_neg this];exact h2 i hi om) hc
   rw[fu (N:=fun i j=>if i=a then F u (c j)else(fun i j=>if i<k-(t+1)then F (r i) (c j)else G (r i) (c j)) i j)]at this
   ·exact this
   ·intro i j hi hj
    by_cases q:i=a
    ·simp only[if_pos q];rw[if_pos om]
    ·simp only[if_neg q]
     by_cases w:i<k-(t+1)
     ·rw[if_pos w,if_pos om]
     ·rw[if_neg w,if_neg om]
 intro r c hr hc;have:=key k (Nat.le_refl _) r c (fun i _ hi=>om) (fun i hi _=>hr i hi) hc;rw[fu (N:=fun i j=>G (r i) (c j)) (fun i j hi hj=>by rw[if_neg om])]at this;exact this
theorem vH{k:Nat}(hk:k<=4):∀(N:Nat) (r:Nat->Nat),4*r 0+3*r 1+2*r 2+r 3<=N->(∀F:Nat->Nat->Int,dt k (fun i j=>F (r i) j)=0)\/∃r':Nat->Nat,(∀i,i+1<k->r' i<r' (i+1))/\(∀m,(∀i,i<k->r i<m)->∀i,i<k->r' i<m)/\∀F:Nat->Nat->Int,(dt k (fun i j=>F (r i) j)).natAbs=(dt k (fun i j=>F (r' i) j)).natAbs:=by
 intro N
 induction N with
 |zero=>
  intro r h;by_cases k2:2<=k
  ·left
   intro F;exact Fl _ (a:=0) (b:=1) om om om (fun y hy=>by rw[show r 0=r 1 by omega])
  ·right
   exact⟨r,fun i hi=>om,fun m hm=>hm,fun F=>rfl⟩
 |succ N ih=>
  intro r h;by_cases c:∃i,i+1<k/\¬r i<r (i+1)
  ·obtain⟨i,hi,hn⟩:=c
   by_cases e:r i=r (i+1)
   ·left
    intro F;exact Fl _ (a:=i) (b:=i+1) om om om (fun y hy=>by rw[e])
   ·have e0:∀x,sw i (i+1) x=if x=i then i+1 else if x=i+1 then i else x:=fun x=>rfl
    have hm:4*r (sw i (i+1) 0)+3*r (sw i (i+1) 1)+2*r (sw i (i+1) 2)+r (sw i (i+1) 3)<=N:=by
     have hi3:i=0\/i=1\/i=2:=om
     rcases hi3 with rfl|rfl|rfl<;>simp[sw]at *<;>omega
    have key:∀F:Nat->Nat->Int,(dt k (fun x j=>F (r x) j)).natAbs=(dt k (fun x j=>F (r (sw i (i+1) x)) j)).natAbs:=fun F=>by
     have:dt k (fun x j=>F (r (sw i (i+1) x)) j)=- dt k (fun x j=>F (r x) j):=I8 (fun x j=>F (r x) j) (a:=i) (b:=i+1) (show i<k by omega) hi om;omega
    rcases ih (fun x=>r (sw i (i+1) x)) hm with q|⟨r',a1,a2,a3⟩
    ·left
     intro F;have:=key F;rw[q F]at this;omega
    ·right
     refine⟨r',a1,fun m hm=>a2 m (fun x hx=>hm _ (EM om hi hx)),fun F=>?_⟩;rw[key F];exact a3 F
  ·right
   refine⟨r,fun i hi=>?_,fun m hm=>hm,fun F=>rfl⟩;exact Classical.byContradiction fun q=>c ⟨i,hi,q⟩
theorem Hw(n:Nat):∀(k f:Nat) (r:Nat->Nat),(∀i,i+1<k->r i<r (i+1))->(∀i,i<k->r i<n)->(0<k->f<=r 0)->(List.range k).map (fun i=>(r i:Int))∈ch n k f
 |0,f,r,_,_,_=>by simp[ch]
 |k+1,f,r,h1,h2,h3=>by
  have ih:=Hw n k (r 0+1) (fun i=>r (i+1)) (fun i hi=>h1 (i+1) om) (fun i hi=>h2 (i+1) om) (fun hk=>h1 0 om);have f0:=h3 om;have l0:=h2 0 om;simp only[ch,List.mem_flatMap,List.mem_map];refine⟨r 0,List.mem_range'_1.2 ⟨f0,om⟩,_,ih,?_⟩;rw[List.range_succ_eq_map,List.map_cons,List.map_map];rfl
theorem Fm(r:Nat->Nat){k i:Nat}(h:i<k):gt ((List.range k).map (fun i=>(r i:Int))) (i:Int)=(r i:Int):=by
 unfold gt;rw[List.getD_eq_getElem?_getD];simp[h]
theorem sB.of{F:Nat->Nat->Int}{m n k:Nat}{d:Int}(hk:k<=4)(h:∀r c:Nat->Nat,(∀i,i+1<k->r i<r (i+1))->(∀j,j+1<k->c j<c (j+1))->(∀i,i<k->r i<m)->(∀j,j<k->c j<n)->d∣dt k (fun i j=>F (r i) (c j))):sB F m n k d:=by
 intro r c hr hc;rcases vH hk _ r (Nat.le_refl _)with q|⟨r',a1,a2,a3⟩
 ·rw[q (fun x j=>F x (c j))];exact Int.dvd_zero d
 ·rcases vH hk _ c (Nat.le_refl _)with q|⟨c',b1,b2,b3⟩
  ·have:=q (fun x j=>F (r j) x)
   rw[Nl (fun i j=>F (r i) (c j))]at this;rw[this];exact Int.dvd_zero d
  ·have h0:=h r' c' a1 b1 (a2 m hr) (b2 n hc)
   have e1:=a3 (fun x j=>F x (c j));have e2:=b3 (fun x j=>F (r' j) x);rw[Nl (fun i j=>F (r' i) (c j)),Nl (fun i j=>F (r' i) (c' j))]at e2;rw[<-Int.dvd_natAbs]at h0 ⊢;rw[e1,e2];exact h0
theorem On{g:List (List Int)}{m n k:Nat}(hk:k<=4)(d:Nat):d∣Dv g m n k↔sB (fun i j=>el g i j) m n k d:=by
 rw[IK g m n k d];constructor
 ·intro h
  refine sB.of hk (fun r c h1 h2 hr hc=>?_);have:=h _ (Hw m k 0 r h1 hr (fun _=>Nat.zero_le _)) _ (Hw n k 0 c h2 hc (fun _=>Nat.zero_le _));unfold Cq at this;rw[fu (N:=fun i j=>el g (r i) (c j)) (fun i j hi hj=>by rw[Fm r hi,Fm c hj])]at this;exact Int.ofNat_dvd_left.2 this
 ·intro h r hr c hc
  have l1:=Cr m k 0 r hr;have l2:=Cr n k 0 c hc;have i1:=Sz m k 0 r hr;have i2:=Sz n k 0 c hc;have mem:∀(l:List Int) (i:Nat),i<l.length->gt l (i:Int)∈l:=fun l i hi=>by
   unfold gt;rw[List.getD_eq_getElem?_getD,show((i:Int)).toNat=i from rfl,List.getElem?_eq_getElem hi];exact List.getElem_mem hi
  have:=h (fun i=>(gt r (i:Int)).toNat) (fun j=>(gt c (j:Int)).toNat) (fun i hi=>by have:=i1 _ (mem r i om);omega) (fun j hj=>by have:=i2 _ (mem c j om);omega);rw[fu (N:=fun i j=>el g (gt r (i:Int)) (gt c (j:Int))) (fun i j hi hj=>by
   have h1:=i1 _ (mem r i om);have h2:=i2 _ (mem c j om);simp only;rw[Int.toNat_of_nonneg h1.1,Int.toNat_of_nonneg h2.1])]at this
  exact Int.ofNat_dvd_left.1 this
end Go.Proofs.Ytdpbiegfljmhmaa.Ext
namespace Go.Proofs.Ytdpbiegfljmhmaa
open Go.cL
namespace Ext
structure Q2(A:Nat->Nat->Int)(m n r:Nat)(p:Nat->Nat):Prop where
 rm:r<=m
 lt:∀i,i<r->p i<n
 inc:∀i j,i<j->j<r->p i<p j
 zero:∀i j,i<r->j<p i->A i j=0
 ne:∀i,i<r->A i (p i)≠0
 low:∀i j,r<=i->i<m->j<n->A i j=0
theorem tN{k:Nat}{r:Nat->Nat}(h:∀i,i+1<k->r i<r (i+1)):∀i,i<k->i<=r i
 |0,_=>Nat.zero_le _
 |i+1,hi=>by have:=tN h i om;have:=h i hi;omega
theorem I9{s:Nat}(M:Nat->Nat->Int){a:Nat}(ha:a<s)(h:∀j,j<s->M a j=0):dt s M=0:=by
 have:=Hv M ha (fun _=>0) (fun _=>0) 0 0;simp only[Int.zero_mul,Int.add_zero]at this;rw[fu (N:=M) (fun x y hx hy=>by
  by_cases c:x=a
  ·rw[if_pos c,c,h y hy]
  ·rw[if_neg c])]at this
 exact this
theorem Q2.over{A:Nat->Nat->Int}{m n r:Nat}{p:Nat->Nat}(e:Q2 A m n r p){k:Nat}(hk:k<=4)(h:r<k):sB A m n k 0:=by
 refine sB.of hk (fun r' c h1 h2 hr hc=>?_);have:=tN h1 (k-1) om;rw[I9 _ (a:=k-1) om (fun j hj=>e.low (r' (k-1)) (c j) om (hr (k-1) om) (hc j hj))];exact Int.dvd_refl 0
def nk(f:Nat->Int):Nat->Int
 |0=>1
 |n+1=>nk f n*f n
theorem UQ{s:Nat}(hs:s<=4)(M:Nat->Nat->Int)(h:∀i j,i<s->j<i->M i j=0):dt s M=nk (fun i=>M i i) s:=by
 have e:s=0\/s=1\/s=2\/s=3\/s=4:=om
 rcases e with rfl|rfl|rfl|rfl|rfl
 ·rfl
 ·simp[dt,nk]
 ·have a:=h 1 0 om om
  simp[dt,nk,d2,a]
 ·have a:=h 1 0 om om
  have b:=h 2 0 om om;have c:=h 2 1 om om;simp[dt,nk,d3,d2,a,b,c];grind
 ·have a:=h 1 0 om om
  have b:=h 2 0 om om;have c:=h 2 1 om om;have d:=h 3 0 om om;have e:=h 3 1 om om;have f:=h 3 2 om om;simp[dt,nk,d4,d3,d2,a,b,c,d,e,f];grind
theorem Fo{f:Nat->Int}:∀n,(∀i,i<n->f i≠0)->nk f n≠0
 |0,_=>by show(1:Int)≠0;decide
 |n+1,h=>Int.mul_ne_zero (Fo n (fun i hi=>h i om)) (h n om)
theorem Q2.minor{A:Nat->Nat->Int}{m n r:Nat}{p:Nat->Nat}(e:Q2 A m n r p){k:Nat}(hk:k<=4)(h:k<=r):dt k (fun i j=>A i (p j))=nk (fun i=>A i (p i)) k:=
 UQ hk _ (fun i j hi hj=>e.zero i _ om (e.inc j i hj om))
theorem Q2.under{A:Nat->Nat->Int}{m n r:Nat}{p:Nat->Nat}(e:Q2 A m n r p){k:Nat}(hk:k<=4)(h:k<=r):¬sB A m n k 0:=fun q=>by
 have h1:=q (fun i=>i) p (fun i hi=>by have:=e.rm;omega) (fun j hj=>e.lt j om);rw[e.minor hk h]at h1;exact Fo k (fun i hi=>e.ne i om) (Int.zero_dvd.1 h1)
theorem Q2.full{A:Nat->Nat->Int}{m n:Nat}{p:Nat->Nat}(e:Q2 A m n n p)(hn:n<=4)(d:Nat):sB A m n n (d:Int)↔d∣(nk (fun i=>A i (p i)) n).natAbs:=by
 constructor
 ·intro q
  have h1:=q (fun i=>i) p (fun i hi=>by have:=e.rm;omega) (fun j hj=>e.lt j hj);rw[e.minor hn (Nat.le_refl _)]at h1;exact Int.ofNat_dvd_left.1 h1
 ·intro q
  have CS:∀c:Nat->Nat,(∀j,j+1<n->c j<c (j+1))->(∀j,j<n->c j<n)->∀j,j<n->c j=j:=fun c h2 hc j hj=>by
   have h1:=tN h2 j hj;have up:∀t,j+t<n->c j+t<=c (j+t):=by
    intro t
    induction t with
    |zero=>intro _;exact Nat.le_refl _
    |succ t ih=>intro ht;have:=ih om;have:=h2 (j+t) om;rw[show j+(t+1)=j+t+1 by omega];omega
   have h3:=up (n-1-j) om;have h4:=hc (j+(n-1-j)) om;omega
  have pid:=CS p (fun j hj=>e.inc j (j+1) om hj) (fun j hj=>e.lt j hj);refine sB.of hn (fun r c h1 h2 hr hc=>?_);have cid:=CS c h2 hc;by_cases lo:∀i,i<n->r i<n
  ·have rid:=CS r h1 lo
   rw[fu (N:=fun i j=>A i (p j)) (fun i j hi hj=>by rw[rid i hi,cid j hj,pid j hj]),e.minor hn (Nat.le_refl _)];exact Int.ofNat_dvd_left.2 q
  ·have:∃i,i<n/\n<=r i:=Classical.byContradiction fun w=>lo fun i hi=>Classical.byContradiction fun v=>w ⟨i,hi,om⟩
   obtain⟨a,ha,Zs⟩:=this;rw[I9 _ ha (fun j hj=>e.low (r a) (c j) Zs (hr a ha) (hc j hj))];exact Int.dvd_zero _
end Ext
theorem bH.ech{g:List (List Int)}{m n r s:Nat}{A:Nat->Ext.aN}(a:bH g m n r s A):Ext.Q2 A m n r (fun i=>Ext.aj (n+m) (A i)):=by
 have hs:=a.sum;refine⟨om,a.lo,fun i j hi hj=>a.N6.inc i j hi om,fun i j hi hj=>Ext.bD hj,fun i hi=>?_,fun i j h1 h2 h3=>Ext.bD (w:=n+m) (by have:=a.hi i h1 h2;omega)⟩;have:=a.N6.pos i om;omega
theorem bH.minors{g:List (List Int)}{m n r s:Nat}{A:Nat->Ext.aN}(a:bH g m n r s A){k:Nat}(d:Int):Ext.sB (fun i j=>Ext.el g i j) m n k d↔Ext.sB A m n k d:=by
 have ej:∀(i j:Nat),j<n->gR g n i j=Ext.el g i j:=fun i j hj=>by unfold gR;rw[if_pos hj];rfl
 constructor
 ·intro h
  refine h.rows (fun i hi=>?_);obtain⟨y,hy⟩:=a.CC.le i hi;exact⟨y,fun j hj=>by
   rw[hy j om];exact Ext.aO m (fun t ht=>by rw[ej t j hj])⟩
 ·intro h
  refine h.rows (fun i hi=>?_);obtain⟨y,hy⟩:=a.CC.ge i hi;exact⟨y,fun j hj=>by rw[<-ej i j hj];exact hy j om⟩
theorem bH.Ye{g:List (List Int)}{m n r s:Nat}{A:Nat->Ext.aN}(hM:oD g m n)(a:bH g m n r s A):oX g m n r:=by
 have e:=a.ech;have hs:=a.sum;have m4:=hM.m4;have rn:r<=n:=by
  cases r with
  |zero=>exact Nat.zero_le _
  |succ r=>
   have h1:r<=Ext.aj (n+m) (A r):=Ext.tN (k:=r+1) (r:=fun i=>Ext.aj (n+m) (A i)) (fun i hi=>e.inc i (i+1) om hi) r om;have h2:Ext.aj (n+m) (A r)<n:=e.lt r om;omega
 have z:∀k,k<=4->(Ext.Dv g m n k=0↔Ext.sB A m n k 0):=fun k hk=>by
  rw[<-a.minors (k:=k) 0];have:=Ext.On (g:=g) (m:=m) (n:=n) hk 0;rw[Nat.zero_dvd]at this;exact this
 refine⟨om,rn,fun k hk=>?_,?_⟩
 ·rw[Ne,z (k+1) om]
  exact e.under om om
 ·by_cases c:r=m
  ·exact .inl c
  ·right;right
   rw[z (r+1) om];exact e.over om om
set_option maxRecDepth 100000
theorem nu(f:Nat->Nat->Int)(m:Nat):∀n,Ext.aT (fun i=>Ext.aT (fun j=>f i j) m) n=Ext.aT (fun j=>Ext.aT (fun i=>f i j) n) m
 |0=>by
  show(0:Int)=Ext.aT (fun j=>0) m;rw[Ext.mS]
 |n+1=>by
  show Ext.aT (fun i=>Ext.aT (fun j=>f i j) m) n+Ext.aT (fun j=>f n j) m=Ext.aT (fun j=>Ext.aT (fun i=>f i j) n+f n j) m;rw[nu f m n,Ext.sL]
theorem iZ(c:Int)(f:Nat->Int)(n:Nat):Ext.aT (fun k=>f k*c) n=Ext.aT f n*c:=by
 rw[Int.mul_comm,<-Ext.jW];exact Ext.aO n (fun k _=>Int.mul_comm _ _)
theorem Hx{g:List (List Int)}{n i j:Nat}(h:j<n):gR g n i j=Ext.el g i j:=by unfold gR;rw[if_pos h];rfl
theorem Hy{g:List (List Int)}{n i j:Nat}:gR g n i (n+j)=if j=i then 1 else 0:=by
 unfold gR;rw[if_neg om];by_cases c:j=i
 ·rw[if_pos c,if_pos om]
 ·rw[if_neg c,if_neg om]
theorem Bi{g:List (List Int)}{n m:Nat}{y:Nat->Int}{j:Nat}(hj:j<m):Ext.aT (fun i=>y i*gR g n i (n+j)) m=y j:=by
 rw[Ext.pt m hj (fun k _ ne=>by rw[Hy,if_neg om,Int.mul_zero])];simp only[Hy,if_true,Int.mul_one]
theorem bH.tail{g:List (List Int)}{m n r s:Nat}{A:Nat->Ext.aN}(a:bH g m n r s A){i:Nat}(hi:i<m){j:Nat}(hj:j<n):A i j=Ext.aT (fun t=>A i (n+t)*Ext.el g t j) m:=by
 obtain⟨y,hy⟩:=a.CC.le i hi;have ht:∀t,t<m->A i (n+t)=y t:=fun t ht=>by rw[hy (n+t) om,Bi ht]
 rw[hy j om];exact Ext.aO m (fun t h=>by rw[ht t h,Hx hj])
def Ja(g:List (List Int))(m n:Nat)(u:Nat->Int):Prop:=∀j,j<n->Ext.aT (fun i=>u i*Ext.el g i j) m=0
theorem bH.rel{g:List (List Int)}{m n r s:Nat}{A:Nat->Ext.aN}(a:bH g m n r s A){i:Nat}(hi:i<s):Ja g m n (fun j=>A (r+i) (n+j)):=fun j hj=>by
 have hs:=a.sum;rw[<-a.tail (i:=r+i) om hj];exact Ext.bD (w:=n+m) (by have:=a.hi (r+i) om om;omega)
theorem bH.Q3{g:List (List Int)}{m n r s:Nat}{A:Nat->Ext.aN}(a:bH g m n r s A){u:Nat->Int}(hu:Ja g m n u):∃y:Nat->Int,∀j,j<m->u j=Ext.aT (fun i=>y i*A (r+i) (n+j)) s:=by
 have hs:=a.sum;have hv:Ext.Sp (n+m) m A (fun c=>Ext.aT (fun i=>u i*gR g n i c) m):=Ext.Sp.le a.CC.ge ⟨u,fun j hj=>rfl⟩;have:=Ext.Sp.rest hs ⟨fun i hi=>a.N6.lt i om,fun i hi=>a.N6.pos i om,fun i j hi hj=>a.N6.inc i j hi om⟩ a.lo (fun i c h1 h2 h3=>Ext.bD (w:=n+m) (by have:=a.hi i h1 h2;omega)) hv (fun c hc=>by
  have:=hu c hc;rw[<-this];exact Ext.aO m (fun k _=>by rw[Hx hc]))
 obtain⟨y,hy⟩:=this;refine⟨y,fun j hj=>?_⟩;rw[<-hy j hj];exact(Bi hj).symm
def oY(B:List Fc)(W:Int)(i:Nat):Int:=(gt B (i:Int)).n*(W / (gt B (i:Int)).d)
def kO(g:List (List Int))(B:List Fc)(m n:Nat):Prop:=∀W,sA B m W->∀u,Ja g m n u->Ext.aT (fun i=>u i*oY B W i) m % W=0
theorem bH.holds{g:List (List Int)}{m n r s:Nat}{A:Nat->Ext.aN}(a:bH g m n r s A){B:List Fc}(ht:∀i:Int,0<=i->i<m->cZ (gt B i)/\(gt B i).d<=60){W:Int}(w:sA B m W):(∀i,i<s->Ext.aT (fun j=>A (r+i) (n+j)*oY B W j) m % W=0)↔kO g B m n:=by
 constructor
 ·intro h W' w' u hu
  obtain⟨y,hy⟩:=a.Q3 hu;have wp:=w.pos;have wp':=w'.pos;have h1:W∣Ext.aT (fun i=>u i*oY B W i) m:=by
   have e:Ext.aT (fun i=>u i*oY B W i) m=Ext.aT (fun i=>y i*Ext.aT (fun j=>A (r+i) (n+j)*oY B W j) m) s:=by
    rw[Ext.aO m (g:=fun j=>Ext.aT (fun i=>y i*(A (r+i) (n+j)*oY B W j)) s) (fun j hj=>by
     rw[hy j hj,<-iZ];exact Ext.aO s (fun i _=>by rw[Int.mul_assoc])),<-nu]
    exact Ext.aO s (fun i _=>by rw[Ext.jW])
   rw[e];exact Ext.rj s (fun i hi=>Int.dvd_mul_of_dvd_right (Int.dvd_of_emod_eq_zero (h i hi)))
  have e2:Ext.aT (fun i=>u i*oY B W' i) m*W=Ext.aT (fun i=>u i*oY B W i) m*W':=by
   rw[<-iZ,<-iZ];refine Ext.aO m (fun i hi=>?_);have q1:=(w.part ht hi).1;have q2:=(w'.part ht hi).1;have q3:=q1.uniq q2;have q4:=(Fk (show W≠0 by omega) (show W'≠0 by omega)).1 q3;show u i*oY B W' i*W=u i*oY B W i*W';have q5:oY B W i*W'=oY B W' i*W:=q4;rw[Int.mul_assoc,<-q5,Int.mul_assoc]
  obtain⟨c,hc⟩:=h1;rw[hc]at e2;have:Ext.aT (fun i=>u i*oY B W' i) m=W'*c:=by
   have e3:W*(Ext.aT (fun i=>u i*oY B W' i) m)=W*(W'*c):=by
    rw[Int.mul_comm,e2,Int.mul_assoc,Int.mul_comm c W']
   exact Int.eq_of_mul_eq_mul_left om e3
  rw[this];exact Int.mul_emod_right W' c
 ·intro h i hi
  exact h W w _ (a.rel hi)
theorem bH.small{g:List (List Int)}{m n r s:Nat}{A:Nat->Ext.aN}(hM:oD g m n)(a:bH g m n r s A){i:Nat}(hi:i<m)(j:Nat):(A i j).natAbs<=629856:=
 a.N6.small a.CC (fun i hi j=>by
  unfold gR;split
  ·exact hM.nine _ _
  ·split<;>decide) hM.m4 hi j
end Go.Proofs.Ytdpbiegfljmhmaa
namespace Go.Proofs.Ytdpbiegfljmhmaa.Ext
theorem Fp{f g:Nat->Int}{k:Nat}:∀(n:Nat),k<n->(∀j,j<n->j≠k->f j=g j)->aT f n=aT g n+(f k-g k)
 |0,h,_=>om
 |n+1,h,e=>by
  show aT f n+f n=aT g n+g n+(f k-g k);by_cases c:k=n
  ·subst c
   rw[aO k (fun j hj=>e j om om)];omega
  ·rw[Fp n om (fun j hj ne=>e j om ne),e n om om]
   omega
theorem mO(x:List Int){k:Nat}(v:Int)(hk:k<x.length)(j:Nat):gt (x.set k v) (j:Int)=if j=k then v else gt x (j:Int):=by
 unfold gt;rw[List.getD_eq_getElem?_getD,List.getD_eq_getElem?_getD,show((j:Int)).toNat=j from rfl,List.getElem?_set];by_cases c:k=j
 ·subst c;simp[hk]
 ·rw[if_neg c,if_neg (fun q=>c q.symm)]
theorem zj{x y:List Int}{n:Nat}(hx:x.length=n)(hy:y.length=n)(h:∀j:Nat,j<n->gt x (j:Int)=gt y (j:Int)):x=y:=by
 apply List.ext_getElem?;intro j;by_cases c:j<n
 ·have:=h j c
  unfold gt at this;rw[List.getD_eq_getElem?_getD,List.getD_eq_getElem?_getD,show((j:Int)).toNat=j from rfl,List.getElem?_eq_getElem om,List.getElem?_eq_getElem om]at this;rw[List.getElem?_eq_getElem om,List.getElem?_eq_getElem om];exact congrArg some this
 ·rw[List.getElem?_eq_none om,List.getElem?_eq_none om]
def Mk(A:Nat->Nat->Int):Nat->Int
 |0=>1
 |k+1=>Mk A k*A k k
structure Aw(A:Nat->Nat->Int)(R:Nat->Int)(size:Int)(n:Nat):Prop where
 up:∀i j,i<n->j<i->A i j=0
 pos:∀i,i<n->0<A i i
 szp:0<size
 szd:Mk A n∣size
 rd:∀k,k<n->Mk A n∣R k
theorem Aw.Oo{A:Nat->Nat->Int}{R:Nat->Int}{size:Int}{n:Nat}(t:Aw A R size n){k:Nat}:∀d,k+d<=n->Mk A k∣Mk A (k+d)
 |0,_=>Int.dvd_refl _
 |d+1,h=>Int.dvd_trans (t.Oo d om) ⟨A (k+d) (k+d),rfl⟩
theorem Aw.mk_le{A:Nat->Nat->Int}{R:Nat->Int}{size:Int}{n:Nat}(t:Aw A R size n){k:Nat}(h:k<=n):Mk A k∣Mk A n:=by
 have:=t.Oo (k:=k) (n-k) om
 rwa [show k+(n-k)=n by omega]at this
def iA(A:Nat->Nat->Int)(n i:Nat)(x:List Int):Int:=aT (fun j=>A i j*gt x (j:Int)) n
def nw(A:Nat->Nat->Int)(R:Nat->Int)(size:Int)(n k:Nat)(x:List Int):Int:=(R k-iA A n k x) % size
def jy(A:Nat->Nat->Int)(R:Nat->Int)(size:Int)(n k:Nat)(x:List Int)(t:Nat):List Int:=x.set k (nw A R size n k x / A k k+t*(size / A k k))
def iq(A:Nat->Nat->Int)(R:Nat->Int)(size:Int)(n k:Nat)(l:List (List Int)):List (List Int):=l.flatMap (fun x=>(List.range (A k k).toNat).map (jy A R size n k x))
def nA(A:Nat->Nat->Int)(R:Nat->Int)(size:Int)(n:Nat):Nat->List (List Int)
 |0=>[List.replicate n 0]
 |d+1=>iq A R size n (n-1-d) (nA A R size n d)
structure CT(A:Nat->Nat->Int)(R:Nat->Int)(size:Int)(n k:Nat)(x:List Int):Prop where
 len:x.length=n
 zero:∀j:Nat,j<k->gt x (j:Int)=0
 uE:∀j:Nat,k<=j->j<n->0<=gt x (j:Int)/\gt x (j:Int)<size
 eqs:∀i,k<=i->i<n->(R i-iA A n i x) % size=0
section
variable{A:Nat->Nat->Int}{R:Nat->Int}{size:Int}{n k:Nat}
theorem Fq(x:List Int)(v:Int)(hx:x.length=n)(hk:k<n)(hz:gt x (k:Int)=0)(i:Nat):iA A n i (x.set k v)=iA A n i x+A i k*v:=by
 unfold iA;rw[Fp (f:=fun j=>A i j*gt (x.set k v) (j:Int)) (g:=fun j=>A i j*gt x (j:Int)) n hk (fun j hj ne=>by rw[mO x v om,if_neg ne])];show _+(A i k*gt (x.set k v) (k:Int)-A i k*gt x (k:Int))=_;rw[mO x v om,if_pos rfl,hz,Int.mul_zero,Int.sub_zero]
theorem tO(t:Aw A R size n)(hk:k<n){x:List Int}(hd:∀j:Nat,j<n->Mk A (k+1)∣gt x (j:Int)):∃q z,nw A R size n k x=A k k*q/\size=A k k*z/\nw A R size n k x / A k k=q/\size / A k k=z/\0<=q/\q<z/\Mk A k∣q/\Mk A k∣z:=by
 have ap:=t.pos k hk;have d1:Mk A (k+1)∣size:=Int.dvd_trans (t.mk_le om) t.szd;have d2:Mk A (k+1)∣R k-iA A n k x:=Int.dvd_sub (Int.dvd_trans (t.mk_le om) (t.rd k hk)) (rj n (fun j hj=>Int.dvd_mul_of_dvd_right (hd j hj)));have d3:Mk A (k+1)∣nw A R size n k x:=by
  unfold nw;rw[Int.emod_def];exact Int.dvd_sub d2 (Int.dvd_mul_of_dvd_left d1)
 obtain⟨c1,e1⟩:=d1;obtain⟨c3,e3⟩:=d3;have PW:size=A k k*(Mk A k*c1):=by rw[e1];show Mk A k*A k k*c1=_;rw[Int.mul_comm (Mk A k),Int.mul_assoc]
 have Pm:nw A R size n k x=A k k*(Mk A k*c3):=by rw[e3];show Mk A k*A k k*c3=_;rw[Int.mul_comm (Mk A k),Int.mul_assoc]
 have l0:0<=nw A R size n k x:=Int.emod_nonneg _ (by have:=t.szp;omega);have l1:nw A R size n k x<size:=Int.emod_lt_of_pos _ t.szp;refine⟨Mk A k*c3,Mk A k*c1,Pm,PW,by rw[Pm];exact Int.mul_ediv_cancel_left _ om,by rw[PW];exact Int.mul_ediv_cancel_left _ om,?_,?_,⟨c3,rfl⟩,⟨c1,rfl⟩⟩
 ·rw[Pm]at l0
  exact Int.nonneg_of_mul_nonneg_right l0 ap
 ·have l1':A k k*(Mk A k*c3)<A k k*(Mk A k*c1):=by rw[<-Pm,<-PW];exact l1
  exact Int.lt_of_mul_lt_mul_left l1' (Int.le_of_lt ap)
theorem Q4(t:Aw A R size n)(hk:k<n){l:List (List Int)}(h1:∀x,x∈l↔CT A R size n (k+1) x)(h2:∀x,x∈l->∀j:Nat,j<n->Mk A (k+1)∣gt x (j:Int)) :
  (∀x,x∈iq A R size n k l↔CT A R size n k x)/\∀x,x∈iq A R size n k l->∀j:Nat,j<n->Mk A k∣gt x (j:Int):=by
 have ap:=t.pos k hk;have mem:∀y,y∈iq A R size n k l↔∃x,x∈l/\∃c:Nat,(c:Int)<A k k/\jy A R size n k x c=y:=fun y=>by
  unfold iq;simp only[List.mem_flatMap,List.mem_map,List.mem_range];constructor
  ·rintro⟨x,hx,c,hc,e⟩;exact⟨x,hx,c,om,e⟩
  ·rintro⟨x,hx,c,hc,e⟩;exact⟨x,hx,c,om,e⟩
 constructor
 ·intro y
  rw[mem y];constructor
  ·rintro⟨x,hx,c,hc,rfl⟩
   have sx:=(h1 x).1 hx;obtain⟨q,z,e1,e2,e3,e4,q0,qz,_,_⟩:=tO t hk (h2 x hx);have lx:=sx.len;have hz:=sx.zero k om;unfold jy;rw[e3,e4];have cz:(c:Int)*z<=(A k k-1)*z:=Int.mul_le_mul_of_nonneg_right om om;have cz0:0<=(c:Int)*z:=Int.mul_nonneg om om;rw[Int.sub_mul,Int.one_mul,<-e2]at cz;refine⟨by rw[List.length_set];exact lx,fun j hj=>?_,fun j j0 j1=>?_,fun i i0 i1=>?_⟩
   ·rw[mO x _ om,if_neg om];exact sx.zero j om
   ·rw[mO x _ om]
    by_cases e:j=k
    ·rw[if_pos e];omega
    ·rw[if_neg e];exact sx.uE j om j1
   ·rw[Fq x _ lx hk hz i]
    by_cases e:i=k
    ·subst e
     have e5:nw A R size n i x=(R i-iA A n i x) % size:=rfl;have e6:=Int.emod_add_mul_ediv (R i-iA A n i x) size;rw[<-e5,e1]at e6;have e7:R i-(iA A n i x+A i i*(q+c*z))=size*((R i-iA A n i x) / size)-size*c:=by
      rw[Int.mul_add];have:A i i*(c*z)=size*c:=by rw[e2,Int.mul_assoc,Int.mul_comm z]
      omega
     rw[e7,<-Int.mul_sub];exact Int.mul_emod_right _ _
    ·rw[t.up i k i1 om,Int.zero_mul,Int.add_zero]
     exact sx.eqs i om i1
  ·intro sy
   have ly:=sy.len;obtain⟨x,ex⟩:∃x,x=y.set k 0:=⟨_,rfl⟩;have lx:x.length=n:=by rw[ex,List.length_set];exact ly
   have gx:∀j:Nat,gt x (j:Int)=if j=k then 0 else gt y (j:Int):=fun j=>by rw[ex,mO y 0 om]
   have hz:gt x (k:Int)=0:=by rw[gx,if_pos rfl]
   have ey:y=x.set k (gt y (k:Int)):=zj ly (by rw[List.length_set];exact lx) (fun j hj=>by
    rw[mO x _ om,gx];by_cases e:j=k
    ·rw[if_pos e,e]
    ·rw[if_neg e,if_neg e])
   have Yf:∀i,iA A n i y=iA A n i x+A i k*gt y (k:Int):=fun i=>by
    exact(congrArg (iA A n i) ey).trans (Fq x (gt y (k:Int)) lx hk hz i)
   have sx:CT A R size n (k+1) x:=by
    refine⟨lx,fun j hj=>?_,fun j j0 j1=>?_,fun i i0 i1=>?_⟩
    ·rw[gx]
     by_cases e:j=k
     ·rw[if_pos e]
     ·rw[if_neg e];exact sy.zero j om
    ·rw[gx,if_neg om];exact sy.uE j om j1
    ·have:=sy.eqs i om i1
     rw[Yf i,t.up i k i1 om,Int.zero_mul,Int.add_zero]at this;exact this
   have hx:=(h1 x).2 sx;obtain⟨q,z,e1,e2,e3,e4,q0,qz,_,_⟩:=tO t hk (h2 x hx);obtain⟨y0,y1⟩:=sy.uE k (Nat.le_refl k) hk;obtain⟨v,ev⟩:∃v,v=gt y (k:Int):=⟨_,rfl⟩;have heq:=sy.eqs k (Nat.le_refl k) hk;rw[Yf k,<-ev]at heq;rw[<-ev]at y0 y1 ey;obtain⟨c,hc⟩:∃c,v=q+c*z:=by
    have e6:=Int.emod_add_mul_ediv (R k-iA A n k x) size;have e5:nw A R size n k x=(R k-iA A n k x) % size:=rfl;rw[<-e5,e1]at e6;obtain⟨w,hw⟩:=Int.dvd_of_emod_eq_zero heq;refine⟨(R k-iA A n k x) / size-w,Int.eq_of_mul_eq_mul_left (show A k k≠0 by omega) ?_⟩;rw[Int.mul_add,Int.sub_mul,Int.mul_sub];have r1:A k k*((R k-iA A n k x) / size*z)=size*((R k-iA A n k x) / size):=by
     rw[Int.mul_comm ((R k-iA A n k x) / size),<-Int.mul_assoc,<-e2]
    have r2:A k k*(w*z)=size*w:=by rw[Int.mul_comm w,<-Int.mul_assoc,<-e2]
    rw[r1,r2];omega
   have c0:0<=c:=by
    refine Classical.byContradiction fun w=>?_
    have:=Int.mul_le_mul_of_nonneg_right (show c<=-1 by omega) (show 0<=z by omega);omega
   have c1:c<A k k:=by
    refine Classical.byContradiction fun w=>?_
    have:=Int.mul_le_mul_of_nonneg_right (show A k k<=c by omega) (show 0<=z by omega);rw[<-e2]at this;omega
   refine⟨x,hx,c.toNat,om,?_⟩;unfold jy;rw[e3,e4,show((c.toNat:Nat):Int)=c by omega,<-hc];exact ey.symm
 ·intro y hy j hj
  obtain⟨x,hx,c,hc,rfl⟩:=(mem y).1 hy;obtain⟨q,z,e1,e2,e3,e4,q0,qz,dq,dz⟩:=tO t hk (h2 x hx);unfold jy;rw[e3,e4,mO x _ (by have:=((h1 x).1 hx).len;omega)];by_cases e:j=k
  ·rw[if_pos e]
   exact Int.dvd_add dq (Int.dvd_mul_of_dvd_right dz)
  ·rw[if_neg e]
   exact Int.dvd_trans ⟨A k k,rfl⟩ (h2 x hx j hj)
theorem Hz(t:Aw A R size n)(hk:k<n):∀{l:List (List Int)},(∀x,x∈l->CT A R size n (k+1) x)->(∀x,x∈l->∀j:Nat,j<n->Mk A (k+1)∣gt x (j:Int))->l.Nodup->(iq A R size n k l).Nodup/\((iq A R size n k l).length:Int)=l.length*A k k:=by
 have ap:=t.pos k hk;intro l
 induction l with
 |nil=>intro _ _ _;exact⟨List.nodup_nil,by simp[iq]⟩
 |cons x l ih=>
  intro h1 h2 hn;obtain⟨i1,i2⟩:=ih (fun y hy=>h1 y (List.mem_cons_of_mem _ hy)) (fun y hy=>h2 y (List.mem_cons_of_mem _ hy)) (List.nodup_cons.1 hn).2;have sx:=h1 x (List.mem_cons_self ..);obtain⟨q,z,e1,e2,e3,e4,q0,qz,_,_⟩:=tO t hk (h2 x (List.mem_cons_self ..));have back:∀y,CT A R size n (k+1) y->∀v:Int,(y.set k v).set k 0=y:=fun y sy v=>by
   rw[List.set_set];exact zj (by rw[List.length_set];exact sy.len) sy.len (fun j hj=>by
    rw[mO y 0 (by have:=sy.len;omega)];by_cases e:j=k
    ·rw[if_pos e,e,sy.zero k om]
    ·rw[if_neg e])
  have hd:iq A R size n k (x :: l)=(List.range (A k k).toNat).map (jy A R size n k x)++iq A R size n k l:=by unfold iq;rw[List.flatMap_cons]
  rw[hd];constructor
  ·rw[List.nodup_append]
   refine⟨?_,i1,fun a ha b hb e=>?_⟩
   ·refine List.Pairwise.map _ (fun c d ne e=>?_) List.nodup_range
    apply ne;have g1:gt (jy A R size n k x c) (k:Int)=gt (jy A R size n k x d) (k:Int):=by rw[e]
    unfold jy at g1;rw[mO x _ (by have:=sx.len;omega),mO x _ (by have:=sx.len;omega),if_pos rfl,if_pos rfl,e3,e4]at g1;have:(c:Int)*z=d*z:=om
    have:=Int.eq_of_mul_eq_mul_right (show z≠0 by omega) this;omega
   ·obtain⟨c,_,rfl⟩:=List.mem_map.1 ha
    unfold iq at hb;obtain⟨y,hy,hb⟩:=List.mem_flatMap.1 hb;obtain⟨d,_,rfl⟩:=List.mem_map.1 hb;have:=congrArg (fun w=>w.set k 0) e;simp only[jy]at this;rw[back x sx,back y (h1 y (List.mem_cons_of_mem _ hy))]at this;exact(List.nodup_cons.1 hn).1 (this ▸ hy)
  ·rw[List.length_append,List.length_map,List.length_range,List.length_cons]
   push_cast
   rw[i2,Int.add_mul,Int.one_mul,Int.toNat_of_nonneg om];omega
theorem uT(t:Aw A R size n):∀d,d<=n->(∀x,x∈nA A R size n d↔CT A R size n (n-d) x)/\(∀x,x∈nA A R size n d->∀j:Nat,j<n->Mk A (n-d)∣gt x (j:Int))/\(nA A R size n d).Nodup/\((nA A R size n d).length:Int)*Mk A (n-d)=Mk A n
 |0,_=>by
  have gz:∀j:Nat,gt (List.replicate n (0:Int)) (j:Int)=0:=fun j=>by
   unfold gt;rw[List.getD_eq_getElem?_getD,show((j:Int)).toNat=j from rfl,List.getElem?_replicate];split<;>rfl
  refine⟨fun x=>?_,fun x hx j hj=>?_,by simp[nA],by simp[nA]⟩
  ·show x∈[List.replicate n 0]↔_
   rw[List.mem_singleton];constructor
   ·rintro rfl
    exact⟨List.length_replicate,fun j _=>gz j,fun j j0 j1=>om,fun i i0 i1=>om⟩
   ·intro s
    exact zj s.len List.length_replicate (fun j hj=>by rw[gz,s.zero j om])
  ·rw[List.mem_singleton.1 (show x∈[List.replicate n 0]from hx),gz]
   exact Int.dvd_zero _
 |d+1,h=>by
  obtain⟨i1,i2,i3,i4⟩:=uT t d om;have e:n-d=n-1-d+1:=om
  rw[e]at i1 i2 i4;obtain⟨a1,a2⟩:=Q4 t (k:=n-1-d) om i1 i2;obtain⟨b1,b2⟩:=Hz t (k:=n-1-d) om (fun x hx=>(i1 x).1 hx) i2 i3;have e2:n-(d+1)=n-1-d:=om
  rw[e2];refine⟨a1,a2,b1,?_⟩;show((iq A R size n (n-1-d) (nA A R size n d)).length:Int)*Mk A (n-1-d)=_;rw[b2,<-i4];show _=(nA A R size n d).length*(Mk A (n-1-d)*A (n-1-d) (n-1-d));rw[Int.mul_assoc,Int.mul_comm (A _ _)]
end
end Go.Proofs.Ytdpbiegfljmhmaa.Ext
namespace Go.Proofs.Ytdpbiegfljmhmaa
open Go.cL
set_option maxRecDepth 100000
variable{F:bg}{call head arith d0 u0 v0 z0 conv u1 z1 c2 u2 z2 place f3 nz g3 rd wr push next l3 n3 o3 p3 r3 u3 x3 y3 z3 part a4 b4 c4 fresh aw aH f4 g4 lt ne l4 n4 o4 yn uE p4 r4 u4 v4 x4:_}(hA:AP F ⟨call,head,arith,d0,u0,v0,z0,conv,u1,z1,c2,u2,z2,place,f3,nz,g3,rd,wr,push,next,l3,n3,o3,p3,r3,u3,x3,y3,z3,part,a4,b4,c4,fresh,aw,aH,f4,g4,lt,ne,l4,n4,o4,yn,uE,p4,r4,u4,v4,x4⟩)
include hA
theorem Jb{h0 h:af}(aq:h0.low<=h0.next){b n c:Nat}{L:List LE}{f lo hi:Int}(f0:0<=f)(l0:0<=lo)(l1:lo<=100000)(hn:f+hi<=n)(t:bB h0 h b n L)(hX:oI gJ L f lo hi lo){Q:Value->af->Prop}
  (hQ:∀h' L',bB h0 h' b n L'->aG f (f+hi) L L'->mC gJ L' f lo hi->Q (.tuple #[]) h'):call 120 [.slice (some ⟨b,0,none⟩) n c,.int .i64 lo,.int .i64 hi,.int .i64 f,.func (.func 70) #[] #[]] h Q:=by
 have da:=aq
 replace aq:=t.ext.az aq
 refine hA.aQ Try.func120 Ce (hA.alike _ _ _ rfl) aq (zc ?_);refine KP hA da (L0:=L) f0 l0 hn (fun h' L' x e kn hx t' hp hh=>?_) (hi-lo).toNat lo h L (Nat.le_refl _) (Int.le_refl _) l1 t (.refl _ _ _) hX;rcases hx with rfl|rfl
 ·refine zc ?_
  exact hQ h' L' t' hp hh
 ·refine zc ?_
  exact hQ h' L' t' hp hh
theorem HA{h0:af}(aq:h0.low<=h0.next){b n c:Nat}{L0:List LE}{f hi:Int}(f0:0<=f)(hn:f+hi<=n){Q:Exit->SS->Prop}
  (hQ:∀h' L,bB h0 h' b n L->aG f (f+hi) L0 L->mC gJ L f 0 hi->Q (.exit 0) ⟨[(0,.slice (some ⟨b,0,none⟩) n c),(3,.func (.func 70) #[] #[]),(8,.int .i64 f),(9,.int .i64 0),(10,.int .i64 hi)],0,[],h'⟩) :
  ∀(m:Nat) (i:Int) (h:af) (L:List LE),(i+1).toNat<=m->-1<=i->i<=100000->bB h0 h b n L->aG f (f+hi) L0 L->mC gJ L f (i+1) hi->
   head 102 4 0 ⟨[(0,.slice (some ⟨b,0,none⟩) n c),(3,.func (.func 70) #[] #[]),(8,.int .i64 f),(9,.int .i64 0),(10,.int .i64 hi),(11,.int .i64 i)],0,[],h⟩ Q:=by
 intro m
 induction m with
 |zero=>
  intro i h L hm i0 i1 t hp hh;obtain rfl:i=-1:=om
  refine hA.ar Try.func102 x102.2 (zc ?_);refine br False (by rw[cA hA];rfl) (fun q=>q.elim) (fun _=>?_)<;>refine zc ?_;exact hQ h L t hp hh
 |succ m ih=>
  intro i h L hm i0 i1 t hp hh;refine hA.ar Try.func102 x102.2 (zc ?_);refine br (0<=i) (by rw[cA hA]) (fun ci=>?_) (fun ci=>?_)<;>refine zc ?_
  rotate_left
  ·obtain rfl:i=-1:=om
   exact hQ h L t hp hh
  refine Jb hA aq f0 ci i1 hn t (.start ci hh) (fun h' L' t' sI zT=>?_);refine zc ?_;rw[bR hA om om];exact ih (i-1) h' L' om om om t' (hp.trans sI) (by rw[show i-1+1=i by omega];exact zT)
theorem Oq{h0:af}(aq:h0.low<=h0.next){b n c:Nat}{L0:List LE}{f B:Int}(f0:0<=f)(hn:B<=n){Q:Exit->SS->Prop}
  (hQ:∀h' L e kn,bB h0 h' b n L->aG f B L0 L->aE gJ L f B->Q (.exit 2) ⟨e,kn,[],h'⟩) :
  ∀(m:Nat) (i:Int) (h:af) (L:List LE),(i+1).toNat<=m->-1<=i->f+i<B->bB h0 h b n L->aG f B L0 L->Lx gJ L f (f+i+1) B->
   head 102 8 0 ⟨[(0,.slice (some ⟨b,0,none⟩) n c),(3,.func (.func 70) #[] #[]),(8,.int .i64 f),(9,.int .i64 0),(12,.int .i64 i)],0,[],h⟩ Q:=by
 intro m
 induction m with
 |zero=>
  intro i h L hm i0 i1 t hp hh;obtain rfl:i=-1:=om
  refine hA.ar Try.func102 x102.2 (zc ?_);refine br False (by rw[cA hA];rfl) (fun q=>q.elim) (fun _=>?_)<;>refine zc ?_;exact hQ h L _ _ t hp (by have:=hh.up;rw[show f + -1+1=f by omega]at this;exact this)
 |succ m ih=>
  intro i h L hm i0 i1 t hp hh;have gB:=t.gB;refine hA.ar Try.func102 x102.2 (zc ?_);refine br (0<=i) (by rw[cA hA]) (fun ci=>?_) (fun ci=>?_)<;>refine zc ?_
  rotate_left
  ·obtain rfl:i=-1:=om
   exact hQ h L _ _ t hp (by have:=hh.up;rw[show f + -1+1=f by omega]at this;exact this)
  have efi:arith .add .i64 f i=f+i:=aF hA om om;obtain⟨fi,hfi⟩:∃z,z=f+i:=⟨_,rfl⟩;rw[<-hfi]at efi hh;obtain⟨h2,lV⟩:∃z,z=aH h 20:=⟨_,rfl⟩;have x2:Ext h h2:=by rw[lV];exact av hA _ _
  have t2:=t.more x2;obtain⟨HB,HC,HD,b2,g2,f2,r2⟩:=t2.read (i:=f) om om;obtain⟨sC,sD,sE,AZ,Az,uh,rE⟩:=t2.read (i:=fi) om om;have q2:=aC hA r2;have F7:=aC hA rE;rw[<-lV];obtain⟨h2c,Z1,p2,Yg,Yh⟩:=dc hA t2 (i:=f) (j:=fi) om om om om g2 Az
  (refine zq ?_;repeat ((first|rw[efi]);refine zq ?_))
  obtain⟨k1,k2,k3⟩:=hh.swap dL f0 (by have:=t.len;omega) om om;rw[show fi-f=i by omega]at k1;have hsw:=aG.swap (a:=f) (b:=B) L (i:=f) (j:=fi) f0 (by have:=t.len;omega) om om om om;refine Jb hA aq f0 om om om Yh k1 (fun h' L' t' sI zT=>?_);refine zc ?_;rw[bR hA om om];rw[<-hfi]at sI;obtain⟨k4,k5⟩:=sI.dF f0 om k2 k3;refine ih (i-1) h' L' om om om t' ((hp.trans hsw).trans (sI.wide f0 om om)) ?_;rw[show f+(i-1)+1=fi by omega];exact⟨by rw[show fi-f=i by omega];exact zT,k4,k5⟩
theorem Q5{h0 h:af}(aq:h0.low<=h0.next){b n c:Nat}{L:List LE}{A B:Int}(a0:0<=A)(ab:A<B)(bn:B<=n)(t:bB h0 h b n L){Q:Value->af->Prop}
  (hQ:∀h' L',bB h0 h' b n L'->aG A B L L'->aE gJ L' A B->Q (.tuple #[]) h'):call 102 [.slice (some ⟨b,0,none⟩) n c,.int .i64 A,.int .i64 B,.func (.func 70) #[] #[]] h Q:=by
 have da:=aq
 replace aq:=t.ext.az aq
 have gB:=t.gB;obtain⟨hi,VI⟩:∃z,z=B-A:=⟨_,rfl⟩;have e1:arith .sub .i64 B A=hi:=by rw[VI];exact bR hA om om
 obtain⟨hj,hhj⟩:∃z,z=hi-1:=⟨_,rfl⟩;have e2:arith .sub .i64 hi 1=hj:=by rw[hhj];exact bR hA om om
 have e3:arith .quo .i64 hj 2=hj / 2:=sQ hA om om om;obtain⟨hk,hhk⟩:∃z,z=hj / 2:=⟨_,rfl⟩;rw[<-hhk]at e3;refine hA.aQ Try.func102 x102.2 (hA.alike _ _ _ rfl) aq (zc ?_);rw[e1]
 (refine zq ?_;repeat ((first|rw[e2]|rw[e3]);refine zq ?_))
 refine HA hA da (L0:=L) (f:=A) (hi:=hi) a0 om (fun h' L' t' hp hh=>?_) (hk+1).toNat hk h L (Nat.le_refl _) om om t (.refl _ _ _) (fun k k0 k1 k2=>by unfold par at k2;omega)
 (refine zq ?_;repeat ((first|rw[e2]);refine zq ?_))
 refine Oq hA da (L0:=L) (f:=A) (B:=B) a0 bn (fun h2 L2 e kn t2 hp2 hs=>?_) (hj+1).toNat hj h' L' (Nat.le_refl _) om om t' (by rw[show B=A+hi by omega];exact hp) ⟨by rw[show A+hj+1-A=hi by omega];exact hh,fun p q p0 pq q1=>om,fun p q p0 p1 q0 q1=>om⟩;refine zc ?_;exact hQ h2 L2 t2 hp2 hs
theorem up3{h0:af}(aq:h0.low<=h0.next){b n c:Nat}{L:List LE}{A B j s:Int}(a0:0<=A)(bn:B<=n){Q:Exit->SS->Prop}
  (hQ:∀h' i,s<=i->bB h0 h' b n L->Part gJ L A B i j->(i<=j->gJ (gt L A) (gt L i))->Q (.exit 0) ⟨[(0,.slice (some ⟨b,0,none⟩) n c),(1,.int .i64 A),(4,.func (.func 70) #[] #[]),(12,.int .i64 i),(13,.int .i64 j)],32,[],h'⟩) :
  ∀(m:Nat) (i:Int) (h:af),(j+1-i).toNat<=m->s<=i->bB h0 h b n L->Part gJ L A B i j->
   head 108 3 16 ⟨[(0,.slice (some ⟨b,0,none⟩) n c),(1,.int .i64 A),(4,.func (.func 70) #[] #[]),(12,.int .i64 i),(13,.int .i64 j)],16,[],h⟩ Q:=by
 intro m
 induction m with
 |zero=>
  intro i h hm hs t hp;refine hA.ar Try.func108 jv (zc ?_);refine br (i<=j) (by rw[jE hA]) (fun q=>om) (fun q=>?_)<;>refine zc ?_;exact hQ _ i hs (t.more (av hA _ _)) hp (fun w=>absurd w q)
 |succ m ih=>
  intro i h hm hs t hp;have gB:=t.gB;have p1:=hp.i0;have p2:=hp.j1;refine hA.ar Try.func108 jv (zc ?_);refine br (i<=j) (by rw[jE hA]) (fun ci=>?_) (fun q=>?_)<;>refine zc ?_
  rotate_left
  ·exact hQ _ i hs (t.more (av hA _ _)) hp (fun w=>absurd w q)
  obtain⟨h2,lV⟩:∃z,z=aH h 16:=⟨_,rfl⟩;have x2:Ext h h2:=by rw[lV];exact av hA _ _
  have t2:=t.more x2;obtain⟨HB,HC,HD,b2,g2,f2,r2⟩:=t2.read (i:=i) om om;obtain⟨sC,sD,sE,AZ,Az,uh,rE⟩:=t2.read (i:=A) om om;have q2:=aC hA r2;have F7:=aC hA rE;rw[<-lV];have e1:arith .add .i64 i 1=i+1:=aF hA om om;refine zq ?_;refine fw hA (aA hA h2) (dC hA f2) (dC hA uh) (fun u vW hu x2a=>⟨_,rfl,?_⟩);have pe:=dE hA aq t2 x2a;refine zc ?_;generalize aw h2 vW=pg at *;refine br (u<0) (by rw[aB hA]) (fun cu=>?_) (fun cu=>?_)<;>refine zc ?_
  ·rw[hu]at cu
   rw[e1];exact ih (i+1) pg om om pe (hp.left ci (LL.le_of_lt (cP.1 cu)))
  ·rw[hu]at cu
   exact hQ pg i hs pe hp (fun _=>LL.not_lt.1 (fun w=>cu (cP.2 w)))
theorem Yi{h0:af}(aq:h0.low<=h0.next){b n c:Nat}{L:List LE}{A B i s:Int}(a0:0<=A)(bn:B<=n){Q:Exit->SS->Prop}
  (hQ:∀h' j,j<=s->bB h0 h' b n L->Part gJ L A B i j->(i<=j->gJ (gt L j) (gt L A)/\¬gJ (gt L A) (gt L j))->Q (.exit 2) ⟨[(0,.slice (some ⟨b,0,none⟩) n c),(1,.int .i64 A),(4,.func (.func 70) #[] #[]),(12,.int .i64 i),(13,.int .i64 j)],49,[],h'⟩) :
  ∀(m:Nat) (j:Int) (h:af),(j+1-i).toNat<=m->j<=s->bB h0 h b n L->Part gJ L A B i j->
   head 108 5 32 ⟨[(0,.slice (some ⟨b,0,none⟩) n c),(1,.int .i64 A),(4,.func (.func 70) #[] #[]),(12,.int .i64 i),(13,.int .i64 j)],32,[],h⟩ Q:=by
 intro m
 induction m with
 |zero=>
  intro j h hm hs t hp;refine hA.ar Try.func108 jv (zc ?_);refine br (i<=j) (by rw[jE hA]) (fun q=>om) (fun q=>?_)<;>refine zc ?_;exact hQ _ j hs (t.more (av hA _ _)) hp (fun w=>absurd w q)
 |succ m ih=>
  intro j h hm hs t hp;have gB:=t.gB;have p1:=hp.i0;have p2:=hp.j1;refine hA.ar Try.func108 jv (zc ?_);refine br (i<=j) (by rw[jE hA]) (fun ci=>?_) (fun q=>?_)<;>refine zc ?_
  rotate_left
  ·exact hQ _ j hs (t.more (av hA _ _)) hp (fun w=>absurd w q)
  obtain⟨h2,lV⟩:∃z,z=aH h 17:=⟨_,rfl⟩;have x2:Ext h h2:=by rw[lV];exact av hA _ _
  have t2:=t.more x2;obtain⟨HB,HC,HD,b2,g2,f2,r2⟩:=t2.read (i:=j) om om;obtain⟨sC,sD,sE,AZ,Az,uh,rE⟩:=t2.read (i:=A) om om;have q2:=aC hA r2;have F7:=aC hA rE;rw[<-lV];have e1:arith .sub .i64 j 1=j-1:=bR hA om om;refine zq ?_;refine fw hA (aA hA h2) (dC hA f2) (dC hA uh) (fun u vW hu x2a=>⟨_,rfl,?_⟩);have pe:=dE hA aq t2 x2a;refine zc ?_;generalize aw h2 vW=pg at *;refine br (0<=u) (by rw[df hA,aB hA];by_cases z:u<0<;>simp[z]<;>omega) (fun cu=>?_) (fun cu=>?_)<;>refine zc ?_
  ·rw[hu]at cu
   rw[e1];exact ih (j-1) pg om om pe (hp.right ci (LL.not_lt.1 (fun w=>by have:=cP.2 w;omega)))
  ·rw[hu]at cu
   have lt:=cP.1 (show fR (gt L j).q (gt L A).q<0 by omega);exact hQ pg j hs pe hp (fun _=>⟨LL.le_of_lt lt,LL.not_le.2 lt⟩)
theorem Yj{h0:af}(aq:h0.low<=h0.next){b n c:Nat}{L:List LE}{A B j s:Int}(a0:0<=A)(bn:B<=n){Q:Exit->SS->Prop}
  (hQ:∀h' i,s<=i->bB h0 h' b n L->Part gJ L A B i j->(i<=j->gJ (gt L A) (gt L i))->Q (.exit 6) ⟨[(0,.slice (some ⟨b,0,none⟩) n c),(1,.int .i64 A),(4,.func (.func 70) #[] #[]),(12,.int .i64 i),(13,.int .i64 j)],81,[],h'⟩) :
  ∀(m:Nat) (i:Int) (h:af),(j+1-i).toNat<=m->s<=i->bB h0 h b n L->Part gJ L A B i j->
   head 108 13 65 ⟨[(0,.slice (some ⟨b,0,none⟩) n c),(1,.int .i64 A),(4,.func (.func 70) #[] #[]),(12,.int .i64 i),(13,.int .i64 j)],65,[],h⟩ Q:=by
 intro m
 induction m with
 |zero=>
  intro i h hm hs t hp;refine hA.ar Try.func108 jv (zc ?_);refine br (i<=j) (by rw[jE hA]) (fun q=>om) (fun q=>?_)<;>refine zc ?_;exact hQ _ i hs (t.more (av hA _ _)) hp (fun w=>absurd w q)
 |succ m ih=>
  intro i h hm hs t hp;have gB:=t.gB;have p1:=hp.i0;have p2:=hp.j1;refine hA.ar Try.func108 jv (zc ?_);refine br (i<=j) (by rw[jE hA]) (fun ci=>?_) (fun q=>?_)<;>refine zc ?_
  rotate_left
  ·exact hQ _ i hs (t.more (av hA _ _)) hp (fun w=>absurd w q)
  obtain⟨h2,lV⟩:∃z,z=aH h 16:=⟨_,rfl⟩;have x2:Ext h h2:=by rw[lV];exact av hA _ _
  have t2:=t.more x2;obtain⟨HB,HC,HD,b2,g2,f2,r2⟩:=t2.read (i:=i) om om;obtain⟨sC,sD,sE,AZ,Az,uh,rE⟩:=t2.read (i:=A) om om;have q2:=aC hA r2;have F7:=aC hA rE;rw[<-lV];have e1:arith .add .i64 i 1=i+1:=aF hA om om;refine zq ?_;refine fw hA (aA hA h2) (dC hA f2) (dC hA uh) (fun u vW hu x2a=>⟨_,rfl,?_⟩);have pe:=dE hA aq t2 x2a;refine zc ?_;generalize aw h2 vW=pg at *;refine br (u<0) (by rw[aB hA]) (fun cu=>?_) (fun cu=>?_)<;>refine zc ?_
  ·rw[hu]at cu
   rw[e1];exact ih (i+1) pg om om pe (hp.left ci (LL.le_of_lt (cP.1 cu)))
  ·rw[hu]at cu
   exact hQ pg i hs pe hp (fun _=>LL.not_lt.1 (fun w=>cu (cP.2 w)))
theorem Ot{h0:af}(aq:h0.low<=h0.next){b n c:Nat}{L:List LE}{A B i s:Int}(a0:0<=A)(bn:B<=n){Q:Exit->SS->Prop}
  (hQ:∀h' j,j<=s->bB h0 h' b n L->Part gJ L A B i j->(i<=j->gJ (gt L j) (gt L A)/\¬gJ (gt L A) (gt L j))->Q (.exit 8) ⟨[(0,.slice (some ⟨b,0,none⟩) n c),(1,.int .i64 A),(4,.func (.func 70) #[] #[]),(12,.int .i64 i),(13,.int .i64 j)],98,[],h'⟩) :
  ∀(m:Nat) (j:Int) (h:af),(j+1-i).toNat<=m->j<=s->bB h0 h b n L->Part gJ L A B i j->
   head 108 15 81 ⟨[(0,.slice (some ⟨b,0,none⟩) n c),(1,.int .i64 A),(4,.func (.func 70) #[] #[]),(12,.int .i64 i),(13,.int .i64 j)],81,[],h⟩ Q:=by
 intro m
 induction m with
 |zero=>
  intro j h hm hs t hp;refine hA.ar Try.func108 jv (zc ?_);refine br (i<=j) (by rw[jE hA]) (fun q=>om) (fun q=>?_)<;>refine zc ?_;exact hQ _ j hs (t.more (av hA _ _)) hp (fun w=>absurd w q)
 |succ m ih=>
  intro j h hm hs t hp;have gB:=t.gB;have p1:=hp.i0;have p2:=hp.j1;refine hA.ar Try.func108 jv (zc ?_);refine br (i<=j) (by rw[jE hA]) (fun ci=>?_) (fun q=>?_)<;>refine zc ?_
  rotate_left
  ·exact hQ _ j hs (t.more (av hA _ _)) hp (fun w=>absurd w q)
  obtain⟨h2,lV⟩:∃z,z=aH h 17:=⟨_,rfl⟩;have x2:Ext h h2:=by rw[lV];exact av hA _ _
  have t2:=t.more x2;obtain⟨HB,HC,HD,b2,g2,f2,r2⟩:=t2.read (i:=j) om om;obtain⟨sC,sD,sE,AZ,Az,uh,rE⟩:=t2.read (i:=A) om om;have q2:=aC hA r2;have F7:=aC hA rE;rw[<-lV];have e1:arith .sub .i64 j 1=j-1:=bR hA om om;refine zq ?_;refine fw hA (aA hA h2) (dC hA f2) (dC hA uh) (fun u vW hu x2a=>⟨_,rfl,?_⟩);have pe:=dE hA aq t2 x2a;refine zc ?_;generalize aw h2 vW=pg at *;refine br (0<=u) (by rw[df hA,aB hA];by_cases z:u<0<;>simp[z]<;>omega) (fun cu=>?_) (fun cu=>?_)<;>refine zc ?_
  ·rw[hu]at cu
   rw[e1];exact ih (j-1) pg om om pe (hp.right ci (LL.not_lt.1 (fun w=>by have:=cP.2 w;omega)))
  ·rw[hu]at cu
   have lt:=cP.1 (show fR (gt L j).q (gt L A).q<0 by omega);exact hQ pg j hs pe hp (fun _=>⟨LL.le_of_lt lt,LL.not_le.2 lt⟩)
theorem KQ{h0:af}(aq:h0.low<=h0.next){b n c:Nat}{L0:List LE}{A B:Int}(a0:0<=A)(bn:B<=n){Q:Exit->SS->Prop}
  (hQ:∀h' L i j,bB h0 h' b n L->aG A B L0 L->Part gJ L A B i j->j<i->Q (.exit 4) ⟨[(0,.slice (some ⟨b,0,none⟩) n c),(1,.int .i64 A),(13,.int .i64 j)],98,[],h'⟩) :
  ∀(m:Nat) (i j:Int) (h:af) (L:List LE),(j+1-i).toNat<=m->bB h0 h b n L->aG A B L0 L->Part gJ L A B i j->
   head 108 1013 65 ⟨[(0,.slice (some ⟨b,0,none⟩) n c),(1,.int .i64 A),(4,.func (.func 70) #[] #[]),(12,.int .i64 i),(13,.int .i64 j)],65,[],h⟩ Q:=by
 intro m
 induction m with
 |zero=>
  intro i j h L hm t hp hI;refine hA.ar Try.func108 jv (zc ?_);refine Yj hA aq a0 bn (s:=i) (fun h1 i1 s1 t1 UR w1=>?_) (j+1-i).toNat i h (Nat.le_refl _) (Int.le_refl _) t hI;refine zc ?_;refine Ot hA aq a0 bn (s:=j) (fun h2 j2 s2 t2 KR w2=>?_) (j+1-i1).toNat j h1 (Nat.le_refl _) (Int.le_refl _) t1 UR;refine zc ?_;refine br (j2<i1) (by rw[fg hA]) (fun _=>?_) (fun q=>om)<;>refine zc ?_;exact hQ h2 L i1 j2 t2 hp KR om
 |succ m ih=>
  intro i j h L hm t hp hI;have gB:=t.gB;refine hA.ar Try.func108 jv (zc ?_);refine Yj hA aq a0 bn (s:=i) (fun h1 i1 s1 t1 UR w1=>?_) (j+1-i).toNat i h (Nat.le_refl _) (Int.le_refl _) t hI;refine zc ?_;refine Ot hA aq a0 bn (s:=j) (fun h2 j2 s2 t2 KR w2=>?_) (j+1-i1).toNat j h1 (Nat.le_refl _) (Int.le_refl _) t1 UR;refine zc ?_;refine br (j2<i1) (by rw[fg hA]) (fun q=>?_) (fun ci=>?_)<;>refine zc ?_
  ·exact hQ h2 L i1 j2 t2 hp KR q
  have k1:=KR.i0;have k2:=KR.j1;obtain⟨v1,v2⟩:=w2 om;have v3:=w1 om;have ne:i1≠j2:=fun e=>v2 (by rw[<-e];exact v3)
  have e1:arith .add .i64 i1 1=i1+1:=aF hA om om;have e2:arith .sub .i64 j2 1=j2-1:=bR hA om om;obtain⟨i2,EC⟩:∃z,z=i1+1:=⟨_,rfl⟩;obtain⟨j3,US⟩:∃z,z=j2-1:=⟨_,rfl⟩;rw[<-EC]at e1;rw[<-US]at e2;obtain⟨h5,sF⟩:∃z,z=aH h2 16:=⟨_,rfl⟩;have x5:Ext h2 h5:=by rw[sF];exact av hA _ _
  have t5:=t2.more x5;obtain⟨Q6,Q7,Q8,b5,g5,f5,r5⟩:=t5.read (i:=i1) om om;obtain⟨CU,CV,CW,Q9,Dd,PF,CX⟩:=t5.read (i:=j2) om om;have q5:=aC hA r5;have Mu:=aC hA CX;rw[<-sF];obtain⟨SX,De,p5,SY,Di⟩:=dc hA t5 (i:=i1) (j:=j2) om om om om g5 Dd
  (refine zq ?_;repeat ((first|rw[e1]|rw[e2]);refine zq ?_))
  refine ih i2 j3 De _ om Di (hp.trans (aG.swap L a0 (by have:=t.len;omega) om om om om)) ?_;rw[EC,US];exact KR.swap a0 (by have:=t.len;omega) om v3 v1
theorem Ra{h0 h:af}(aq:h0.low<=h0.next){b n c:Nat}{L:List LE}{A B p:Int}(a0:0<=A)(bn:B<=n)(pa:A<=p)(pb:p<B)(t:bB h0 h b n L){Q:Value->af->Prop}
  (hQ:∀h' L' m (r:Bool),bB h0 h' b n L'->aG A B L L'->A<=m->m<B->(∀p:Int,A<=p->p<m->gJ (gt L' p) (gt L' m))->(∀p:Int,m<p->p<B->gJ (gt L' m) (gt L' p))->Q (.tuple #[.int .i64 m,.bool r]) h') :
  call 108 [.slice (some ⟨b,0,none⟩) n c,.int .i64 A,.int .i64 B,.int .i64 p,.func (.func 70) #[] #[]] h Q:=by
 have da:=aq
 replace aq:=t.ext.az aq
 have gB:=t.gB;have e1:arith .add .i64 A 1=A+1:=aF hA om om;have e2:arith .sub .i64 B 1=B-1:=bR hA om om;obtain⟨A1,VP⟩:∃z,z=A+1:=⟨_,rfl⟩;obtain⟨B1,Z2⟩:∃z,z=B-1:=⟨_,rfl⟩;rw[<-VP]at e1;rw[<-Z2]at e2;refine hA.aQ Try.func108 jv (hA.alike _ _ _ rfl) aq (zc ?_);obtain⟨h2,lV⟩:∃z,z=aH h 16:=⟨_,rfl⟩;have x2:Ext h h2:=by rw[lV];exact av hA _ _
 have t2:=t.more x2;obtain⟨HB,HC,HD,b2,g2,f2,r2⟩:=t2.read (i:=A) om om;obtain⟨sC,sD,sE,AZ,Az,uh,rE⟩:=t2.read (i:=p) om om;have q2:=aC hA r2;have F7:=aC hA rE;rw[<-lV];obtain⟨h2c,Z1,p2,Yg,Yh⟩:=dc hA t2 (i:=A) (j:=p) om om om om g2 Az
 (refine zq ?_;repeat ((first|rw[e1]|rw[e2]);refine zq ?_))
 have s2:=aG.swap (a:=A) (b:=B) L (i:=A) (j:=p) a0 (by have:=t.len;omega) om om pa pb;generalize dy L A p=L2 at *;have hI:Part gJ L2 A B A1 B1:=by rw[VP,Z2];exact .start L2 om
 refine up3 hA da a0 bn (s:=A1) (fun h3 i3 s3 t3 hI3 w3=>?_) (B1+1-A1).toNat A1 Z1 (Nat.le_refl _) (Int.le_refl _) Yh hI;refine zc ?_;refine Yi hA da a0 bn (s:=B1) (fun h4 j4 s4 t4 Yk w4=>?_) (B1+1-i3).toNat B1 h3 (Nat.le_refl _) (Int.le_refl _) t3 hI3;refine zc ?_;have fin:∀(hh:af) (L':List LE) (i j:Int),bB h0 hh b n L'->aG A B L L'->Part gJ L' A B i j->j<i->∀zT (r:Bool),bB h0 zT b n (dy L' j A)->Q (.tuple #[.int .i64 j,.bool r]) zT:=fun hh L' i j td hp hI c zT r td'=>by
  have k1:=hI.i0;have k2:=hI.j1;have k3:=hI.ij;obtain⟨f1,f2⟩:=hI.done a0 (by have:=td.len;omega) c;exact hQ zT _ j r td' (hp.trans (aG.swap L' a0 (by have:=td.len;omega) om om om om)) om om f1 f2
 have k1:=Yk.i0;have k2:=Yk.j1;have k3:=Yk.ij;refine br (j4<i3) (by rw[fg hA]) (fun q=>?_) (fun ci=>?_)<;>refine zc ?_
 ·have UT:=fin h4 L2 i3 j4 t4 s2 Yk q
  have abt:=da;clear aq;have aq:=da;obtain⟨h6,Z3⟩:∃z,z=aH h4 16:=⟨_,rfl⟩;have x6:Ext h4 h6:=by rw[Z3];exact av hA _ _
  have t6:=t4.more x6;obtain⟨a6x,a6y,a6z,b6,g6,f6,r6⟩:=t6.read (i:=j4) om om;obtain⟨a6'x,a6'y,a6'z,b6',g6',f6',r6'⟩:=t6.read (i:=A) om om;have q6:=aC hA r6;have q6':=aC hA r6';rw[<-Z3];obtain⟨h6c,h6d,p6,p6',t6d⟩:=dc hA t6 (i:=j4) (j:=A) om om om om g6 g6';refine zq ?_;exact UT _ _ t6d
 obtain⟨v1,v2⟩:=w4 om;have v3:=w3 om;have ne:i3≠j4:=fun e=>v2 (by rw[<-e];exact v3)
 have e3:arith .add .i64 i3 1=i3+1:=aF hA om om;have e4:arith .sub .i64 j4 1=j4-1:=bR hA om om;obtain⟨i5,hi5⟩:∃z,z=i3+1:=⟨_,rfl⟩;obtain⟨j5,hj5⟩:∃z,z=j4-1:=⟨_,rfl⟩;rw[<-hi5]at e3;rw[<-hj5]at e4;obtain⟨h7,hh7⟩:∃z,z=aH h4 16:=⟨_,rfl⟩;have x7:Ext h4 h7:=by rw[hh7];exact av hA _ _
 have t7:=t4.more x7;obtain⟨a7x,a7y,a7z,b7,g7,f7,r7⟩:=t7.read (i:=i3) om om;obtain⟨a7'x,a7'y,a7'z,b7',g7',f7',r7'⟩:=t7.read (i:=j4) om om;have q7:=aC hA r7;have q7':=aC hA r7';rw[<-hh7];obtain⟨h7c,h7d,p7,p7',t7d⟩:=dc hA t7 (i:=i3) (j:=j4) om om om om g7 g7'
 (refine zq ?_;repeat ((first|rw[e3]|rw[e4]);refine zq ?_))
 have hI7:=Yk.swap a0 (by have:=t4.len;omega) om v3 v1;rw[<-hi5,<-hj5]at hI7;refine KQ hA da (L0:=L) a0 bn (fun h8 L8 i8 j8 t8 hp8 Z4 c8=>?_) (j5+1-i5).toNat i5 j5 h7d _ (Nat.le_refl _) t7d (s2.trans (aG.swap L2 a0 (by have:=t4.len;omega) om om om om)) hI7;have m1:=Z4.i0;have m2:=Z4.j1;have m3:=Z4.ij;have UT:=fin h8 L8 i8 j8 t8 hp8 Z4 c8;refine zc ?_;obtain⟨h9,iB⟩:∃z,z=aH h8 16:=⟨_,rfl⟩;have x9:Ext h8 h9:=by rw[iB];exact av hA _ _
 have t9:=t8.more x9;obtain⟨a9x,a9y,a9z,b9,g9,f9,r9⟩:=t9.read (i:=j8) om om;obtain⟨a9'x,a9'y,a9'z,b9',g9',f9',r9'⟩:=t9.read (i:=A) om om;have q9:=aC hA r9;have q9':=aC hA r9';rw[<-iB];obtain⟨h9c,h9d,p9,p9',t9d⟩:=dc hA t9 (i:=j8) (j:=A) om om om om g9 g9';refine zq ?_;exact UT _ _ t9d
theorem SZ{h0:af}(aq:h0.low<=h0.next){b n c:Nat}{L:List LE}{A B j s:Int}(a0:0<=A)(bn:B<=n){Q:Exit->SS->Prop}
  (hQ:∀h' i,s<=i->bB h0 h' b n L->lU gJ L A B i j->(i<=j->¬gJ (gt L i) (gt L A))->Q (.exit 2) ⟨[(0,.slice (some ⟨b,0,none⟩) n c),(1,.int .i64 A),(4,.func (.func 70) #[] #[]),(11,.int .i64 i),(12,.int .i64 j)],33,[],h'⟩) :
  ∀(m:Nat) (i:Int) (h:af),(j+1-i).toNat<=m->s<=i->bB h0 h b n L->lU gJ L A B i j->
   head 107 3 16 ⟨[(0,.slice (some ⟨b,0,none⟩) n c),(1,.int .i64 A),(4,.func (.func 70) #[] #[]),(11,.int .i64 i),(12,.int .i64 j)],16,[],h⟩ Q:=by
 intro m
 induction m with
 |zero=>
  intro i h hm hs t hp;refine hA.ar Try.func107 oe (zc ?_);refine br (i<=j) (by rw[jE hA]) (fun q=>om) (fun q=>?_)<;>refine zc ?_;exact hQ _ i hs (t.more (av hA _ _)) hp (fun w=>absurd w q)
 |succ m ih=>
  intro i h hm hs t hp;have gB:=t.gB;have p1:=hp.i0;have p2:=hp.j1;refine hA.ar Try.func107 oe (zc ?_);refine br (i<=j) (by rw[jE hA]) (fun ci=>?_) (fun q=>?_)<;>refine zc ?_
  rotate_left
  ·exact hQ _ i hs (t.more (av hA _ _)) hp (fun w=>absurd w q)
  obtain⟨h2,lV⟩:∃z,z=aH h 17:=⟨_,rfl⟩;have x2:Ext h h2:=by rw[lV];exact av hA _ _
  have t2:=t.more x2;obtain⟨HB,HC,HD,b2,g2,f2,r2⟩:=t2.read (i:=A) om om;obtain⟨sC,sD,sE,AZ,Az,uh,rE⟩:=t2.read (i:=i) om om;have q2:=aC hA r2;have F7:=aC hA rE;rw[<-lV];have e1:arith .add .i64 i 1=i+1:=aF hA om om;refine zq ?_;refine fw hA (aA hA h2) (dC hA f2) (dC hA uh) (fun u vW hu x2a=>⟨_,rfl,?_⟩);have pe:=dE hA aq t2 x2a;refine zc ?_;generalize aw h2 vW=pg at *;refine br (0<=u) (by rw[df hA,aB hA];by_cases z:u<0<;>simp[z]<;>omega) (fun cu=>?_) (fun cu=>?_)<;>refine zc ?_
  ·rw[hu]at cu
   rw[e1];exact ih (i+1) pg om om pe (hp.left ci (LL.not_lt.1 (fun w=>by have:=cP.2 w;omega)))
  ·rw[hu]at cu
   exact hQ pg i hs pe hp (fun _=>LL.not_le.2 (cP.1 (show fR (gt L A).q (gt L i).q<0 by omega)))
theorem Jc{h0:af}(aq:h0.low<=h0.next){b n c:Nat}{L:List LE}{A B i s:Int}(a0:0<=A)(bn:B<=n){Q:Exit->SS->Prop}
  (hQ:∀h' j,j<=s->bB h0 h' b n L->lU gJ L A B i j->(i<=j->gJ (gt L j) (gt L A))->Q (.exit 4) ⟨[(0,.slice (some ⟨b,0,none⟩) n c),(1,.int .i64 A),(4,.func (.func 70) #[] #[]),(11,.int .i64 i),(12,.int .i64 j)],49,[],h'⟩) :
  ∀(m:Nat) (j:Int) (h:af),(j+1-i).toNat<=m->j<=s->bB h0 h b n L->lU gJ L A B i j->
   head 107 5 33 ⟨[(0,.slice (some ⟨b,0,none⟩) n c),(1,.int .i64 A),(4,.func (.func 70) #[] #[]),(11,.int .i64 i),(12,.int .i64 j)],33,[],h⟩ Q:=by
 intro m
 induction m with
 |zero=>
  intro j h hm hs t hp;refine hA.ar Try.func107 oe (zc ?_);refine br (i<=j) (by rw[jE hA]) (fun q=>om) (fun q=>?_)<;>refine zc ?_;exact hQ _ j hs (t.more (av hA _ _)) hp (fun w=>absurd w q)
 |succ m ih=>
  intro j h hm hs t hp;have gB:=t.gB;have p1:=hp.i0;have p2:=hp.j1;refine hA.ar Try.func107 oe (zc ?_);refine br (i<=j) (by rw[jE hA]) (fun ci=>?_) (fun q=>?_)<;>refine zc ?_
  rotate_left
  ·exact hQ _ j hs (t.more (av hA _ _)) hp (fun w=>absurd w q)
  obtain⟨h2,lV⟩:∃z,z=aH h 16:=⟨_,rfl⟩;have x2:Ext h h2:=by rw[lV];exact av hA _ _
  have t2:=t.more x2;obtain⟨HB,HC,HD,b2,g2,f2,r2⟩:=t2.read (i:=A) om om;obtain⟨sC,sD,sE,AZ,Az,uh,rE⟩:=t2.read (i:=j) om om;have q2:=aC hA r2;have F7:=aC hA rE;rw[<-lV];have e1:arith .sub .i64 j 1=j-1:=bR hA om om;refine zq ?_;refine fw hA (aA hA h2) (dC hA f2) (dC hA uh) (fun u vW hu x2a=>⟨_,rfl,?_⟩);have pe:=dE hA aq t2 x2a;refine zc ?_;generalize aw h2 vW=pg at *;refine br (u<0) (by rw[aB hA]) (fun cu=>?_) (fun cu=>?_)<;>refine zc ?_
  ·rw[e1]
   exact ih (j-1) pg om om pe (hp.right ci)
  ·rw[hu]at cu
   exact hQ pg j hs pe hp (fun _=>LL.not_lt.1 (fun w=>cu (cP.2 w)))
theorem Rc{h0:af}(aq:h0.low<=h0.next){b n c:Nat}{L0:List LE}{A B:Int}(a0:0<=A)(bn:B<=n){v:LE}{Q:Exit->SS->Prop}
  (hQ:∀h' L i e,bB h0 h' b n L->aG A B L0 L->A<i->i<=B->(∀p:Int,A<=p->p<i->gJ (gt L p) v)->Q (.exit 0) ⟨(11,.int .i64 i) :: e,49,[],h'⟩) :
  ∀(m:Nat) (i j:Int) (h:af) (L:List LE),(j+1-i).toNat<=m->bB h0 h b n L->aG A B L0 L->lU gJ L A B i j->gt L A=v->
   head 107 1003 16 ⟨[(0,.slice (some ⟨b,0,none⟩) n c),(1,.int .i64 A),(4,.func (.func 70) #[] #[]),(11,.int .i64 i),(12,.int .i64 j)],16,[],h⟩ Q:=by
 intro m;have fin:∀(h:af) (L:List LE) (i j:Int),bB h0 h b n L->aG A B L0 L->lU gJ L A B i j->gt L A=v->j<i->Q (.exit 0) ⟨[(11,.int .i64 i)],49,[],h⟩:=fun h L i j t hp hI hv c=>by
  have k1:=hI.i0;have k2:=hI.j1;have k3:=hI.ij;refine hQ h L i _ t hp k1 om (fun p p0 p1=>?_);by_cases e:p=A
  ·rw[e,hv];exact dL.refl _
  ·rw[<-hv];exact hI.low p om p1
 induction m with
 |zero=>
  intro i j h L hm t hp hI hv;refine hA.ar Try.func107 oe (zc ?_);refine SZ hA aq a0 bn (s:=i) (fun h1 i1 s1 t1 UR w1=>?_) (j+1-i).toNat i h (Nat.le_refl _) (Int.le_refl _) t hI;refine zc ?_;refine Jc hA aq a0 bn (s:=j) (fun h2 j2 s2 t2 KR w2=>?_) (j+1-i1).toNat j h1 (Nat.le_refl _) (Int.le_refl _) t1 UR;refine zc ?_;refine br (j2<i1) (by rw[fg hA]) (fun _=>?_) (fun q=>om)<;>refine zc ?_;exact fin h2 L i1 j2 t2 hp KR hv om
 |succ m ih=>
  intro i j h L hm t hp hI hv;have gB:=t.gB;refine hA.ar Try.func107 oe (zc ?_);refine SZ hA aq a0 bn (s:=i) (fun h1 i1 s1 t1 UR w1=>?_) (j+1-i).toNat i h (Nat.le_refl _) (Int.le_refl _) t hI;refine zc ?_;refine Jc hA aq a0 bn (s:=j) (fun h2 j2 s2 t2 KR w2=>?_) (j+1-i1).toNat j h1 (Nat.le_refl _) (Int.le_refl _) t1 UR;refine zc ?_;refine br (j2<i1) (by rw[fg hA]) (fun q=>?_) (fun ci=>?_)<;>refine zc ?_
  ·exact fin h2 L i1 j2 t2 hp KR hv q
  have k1:=KR.i0;have k2:=KR.j1;have v2:=w2 om;have v3:=w1 om;have ne:i1≠j2:=fun e=>v3 (by rw[e];exact v2)
  have e1:arith .add .i64 i1 1=i1+1:=aF hA om om;have e2:arith .sub .i64 j2 1=j2-1:=bR hA om om;obtain⟨i2,EC⟩:∃z,z=i1+1:=⟨_,rfl⟩;obtain⟨j3,US⟩:∃z,z=j2-1:=⟨_,rfl⟩;rw[<-EC]at e1;rw[<-US]at e2;obtain⟨h5,sF⟩:∃z,z=aH h2 16:=⟨_,rfl⟩;have x5:Ext h2 h5:=by rw[sF];exact av hA _ _
  have t5:=t2.more x5;obtain⟨Q6,Q7,Q8,b5,g5,f5,r5⟩:=t5.read (i:=i1) om om;obtain⟨CU,CV,CW,Q9,Dd,PF,CX⟩:=t5.read (i:=j2) om om;have q5:=aC hA r5;have Mu:=aC hA CX;rw[<-sF];obtain⟨SX,De,p5,SY,Di⟩:=dc hA t5 (i:=i1) (j:=j2) om om om om g5 Dd
  (refine zq ?_;repeat ((first|rw[e1]|rw[e2]);refine zq ?_))
  refine ih i2 j3 De _ om Di (hp.trans (aG.swap L a0 (by have:=t.len;omega) om om om om)) ?_ ?_
  ·rw[EC,US]
   exact KR.swap a0 (by have:=t.len;omega) om v2
  ·rw[je L om (by have:=t.len;omega) om (by have:=t.len;omega) a0,if_neg om,if_neg om,hv]
theorem Ou{h0 h:af}(aq:h0.low<=h0.next){b n c:Nat}{L:List LE}{A B p:Int}(a0:0<=A)(bn:B<=n)(pa:A<=p)(pb:p<B)(t:bB h0 h b n L){Q:Value->af->Prop}
  (hQ:∀h' L' m,bB h0 h' b n L'->aG A B L L'->A<m->m<=B->(∀k:Int,A<=k->k<m->gJ (gt L' k) (gt L p))->Q (.int .i64 m) h') :
  call 107 [.slice (some ⟨b,0,none⟩) n c,.int .i64 A,.int .i64 B,.int .i64 p,.func (.func 70) #[] #[]] h Q:=by
 have da:=aq
 replace aq:=t.ext.az aq
 have gB:=t.gB;have e1:arith .add .i64 A 1=A+1:=aF hA om om;have e2:arith .sub .i64 B 1=B-1:=bR hA om om;obtain⟨A1,VP⟩:∃z,z=A+1:=⟨_,rfl⟩;obtain⟨B1,Z2⟩:∃z,z=B-1:=⟨_,rfl⟩;rw[<-VP]at e1;rw[<-Z2]at e2;refine hA.aQ Try.func107 oe (hA.alike _ _ _ rfl) aq (zc ?_);obtain⟨h2,lV⟩:∃z,z=aH h 16:=⟨_,rfl⟩;have x2:Ext h h2:=by rw[lV];exact av hA _ _
 have t2:=t.more x2;obtain⟨HB,HC,HD,b2,g2,f2,r2⟩:=t2.read (i:=A) om om;obtain⟨sC,sD,sE,AZ,Az,uh,rE⟩:=t2.read (i:=p) om om;have q2:=aC hA r2;have F7:=aC hA rE;rw[<-lV];obtain⟨h2c,Z1,p2,Yg,Yh⟩:=dc hA t2 (i:=A) (j:=p) om om om om g2 Az
 (refine zq ?_;repeat ((first|rw[e1]|rw[e2]);refine zq ?_))
 have s2:=aG.swap (a:=A) (b:=B) L (i:=A) (j:=p) a0 (by have:=t.len;omega) om om pa pb;have hv:gt (dy L A p) A=gt L p:=by
  rw[je L a0 (by have:=t.len;omega) om (by have:=t.len;omega) a0];by_cases e:A=p
  ·rw[if_pos e,e]
  ·rw[if_neg e,if_pos rfl]
 refine Rc hA da (L0:=L) a0 bn (v:=gt L p) (fun h' L' i e t' hp i0 i1 hl=>?_) (B1+1-A1).toNat A1 B1 Z1 _ (Nat.le_refl _) Yh s2 ⟨om,om,om,fun p p0 p1=>om⟩ hv;refine zc ?_;exact hQ h' L' i t' hp i0 i1 hl
theorem Rd{h0 h h':af}(hl:h.low<=h.next){b sb:Nat}{v:Value}(t:wE h0 h b sb v)(x:Ext (fresh h) h'):wE h0 (aw h h') b sb v:=t.more (cU hA hl (.refl h) x)
theorem uV{h0 h:af}(aq:h0.low<=h0.next){b n c sb:Nat}{L:List LE}{i j w:Int}(i0:0<=i)(i1:i<n)(j0:0<=j)(j1:j<n)(t:bB h0 h b n L)(s:wE h0 h b sb (.int .i64 w)){Q:Value->af->Prop}
  (hQ:∀h' r q w',bB h0 h' b n L->wE h0 h' b sb (.int .i64 w')->((r=i/\q=j)\/(r=j/\q=i))->Q (.tuple #[.int .i64 r,.int .i64 q]) h'):call 127 [.slice (some ⟨b,0,none⟩) n c,.int .i64 i,.int .i64 j,.pointer (some ⟨sb,0,none⟩),.func (.func 70) #[] #[]] h Q:=by
 have da:=aq
 replace aq:=t.ext.az aq
 have gB:=t.gB;refine hA.aQ Try.func127 x127.2 (hA.alike _ _ _ rfl) aq (zc ?_);obtain⟨h2,lV⟩:∃z,z=aH h 11:=⟨_,rfl⟩;have x2:Ext h h2:=by rw[lV];exact av hA _ _
 have t2:=t.more x2;obtain⟨HB,HC,HD,b2,g2,f2,r2⟩:=t2.read (i:=j) om om;obtain⟨sC,sD,sE,AZ,Az,uh,rE⟩:=t2.read (i:=i) om om;have q2:=aC hA r2;have F7:=aC hA rE;rw[<-lV];have s2:=s.more x2;have l2:=t2.ext.az da;have aq:=da;refine zq ?_;refine fw hA (aA hA h2) (dC hA f2) (dC hA uh) (fun u vW hu x2a=>⟨_,rfl,?_⟩);have pe:=dE hA aq t2 x2a;refine zc ?_;have s2b:=Rd hA l2 s2 x2a;generalize aw h2 vW=pg at *;refine br (u<0) (by rw[aB hA]) (fun cu=>?_) (fun cu=>?_)<;>refine zc ?_
 rotate_left
 ·exact hQ pg i j w pe s2b (.inl ⟨rfl,rfl⟩)
 have r5:rd pg sb 0 1 [.int .i64 w]:=iQ hA (s2b.own.aL (o:=0) (n:=1) (by simp));obtain⟨h6,p6,s6,t6⟩:=s2b.put pe (.int .i64 (arith .add .i64 w 1));have p7:wr pg sb 0 [.int .i64 (arith .add .i64 w 1)] h6:=kI hA p6;refine zq ?_;exact hQ h6 j i _ t6 s6 (.inr ⟨rfl,rfl⟩)
theorem uW{h0 h:af}(aq:h0.low<=h0.next){b n c sb:Nat}{L:List LE}{i j k w:Int}(i0:0<=i)(i1:i<n)(j0:0<=j)(j1:j<n)(k0:0<=k)(k1:k<n)(t:bB h0 h b n L)(s:wE h0 h b sb (.int .i64 w)){Q:Value->af->Prop}
  (hQ:∀h' r w',bB h0 h' b n L->wE h0 h' b sb (.int .i64 w')->(r=i\/r=j\/r=k)->Q (.int .i64 r) h'):call 124 [.slice (some ⟨b,0,none⟩) n c,.int .i64 i,.int .i64 j,.int .i64 k,.pointer (some ⟨sb,0,none⟩),.func (.func 70) #[] #[]] h Q:=by
 have da:=aq
 replace aq:=t.ext.az aq
 refine hA.aQ Try.func124 x124.2 (hA.alike _ _ _ rfl) aq (zc ?_);refine uV hA da i0 i1 j0 j1 t s (fun h1 a1 b1 w1 t1 s1 q1=>⟨_,_,rfl,?_⟩);refine zc ?_;refine uV hA da (i:=b1) (j:=k) om om k0 k1 t1 s1 (fun h2 a2 b2 w2 t2 s2 q2=>⟨_,_,rfl,?_⟩);refine zc ?_;refine uV hA da (i:=a1) (j:=a2) om om om om t2 s2 (fun h3 a3 b3 w3 t3 s3 q3=>⟨_,_,rfl,?_⟩);refine zc ?_;exact hQ h3 b3 w3 t3 s3 om
theorem qx{h0 h:af}(aq:h0.low<=h0.next){b n c sb:Nat}{L:List LE}{i w:Int}(i0:0<i)(i1:i+1<n)(t:bB h0 h b n L)(s:wE h0 h b sb (.int .i64 w)){Q:Value->af->Prop}
  (hQ:∀h' r w',bB h0 h' b n L->wE h0 h' b sb (.int .i64 w')->(i-1<=r/\r<=i+1)->Q (.int .i64 r) h'):call 123 [.slice (some ⟨b,0,none⟩) n c,.int .i64 i,.pointer (some ⟨sb,0,none⟩),.func (.func 70) #[] #[]] h Q:=by
 have da:=aq
 replace aq:=t.ext.az aq
 have gB:=t.gB;refine hA.aQ Try.func123 x123.2 (hA.alike _ _ _ rfl) aq (zc ?_);rw[bR hA om om,aF hA om om];refine uW hA da om om om om om om t s (fun h1 r w1 t1 s1 q1=>⟨_,rfl,?_⟩);refine zc ?_;exact hQ h1 r w1 t1 s1 om
theorem Ov{h0 h:af}(aq:h0.low<=h0.next){b n c:Nat}{L:List LE}{A B:Int}(a0:0<=A)(ab:A+12<B)(bn:B<=n)(t:bB h0 h b n L){Q:Value->af->Prop}
  (hQ:∀h' p k,bB h0 h' b n L->A<=p->p<B->Q (.tuple #[.int .i64 p,.int .i64 k]) h'):call 104 [.slice (some ⟨b,0,none⟩) n c,.int .i64 A,.int .i64 B,.func (.func 70) #[] #[]] h Q:=by
 have da:=aq
 replace aq:=t.ext.az aq
 have gB:=t.gB;obtain⟨l,hl⟩:∃z,z=B-A:=⟨_,rfl⟩;have e1:arith .sub .i64 B A=l:=by rw[hl];exact bR hA om om
 have e2:arith .quo .i64 l 4=l / 4:=sQ hA om om om;obtain⟨q,hq⟩:∃z,z=l / 4:=⟨_,rfl⟩;rw[<-hq]at e2;have e3:arith .mul .i64 q 1=q:=by rw[jh hA om om];omega
 obtain⟨q2,C9⟩:∃z,z=q*2:=⟨_,rfl⟩;have e4:arith .mul .i64 q 2=q2:=by rw[C9];exact jh hA om om
 obtain⟨q3,hq3⟩:∃z,z=q*3:=⟨_,rfl⟩;have e5:arith .mul .i64 q 3=q3:=by rw[hq3];exact jh hA om om
 obtain⟨i,hi⟩:∃z,z=A+q:=⟨_,rfl⟩;have e6:arith .add .i64 A q=i:=by rw[hi];exact aF hA om om
 obtain⟨j,hj⟩:∃z,z=A+q2:=⟨_,rfl⟩;have e7:arith .add .i64 A q2=j:=by rw[hj];exact aF hA om om
 obtain⟨k,hk⟩:∃z,z=A+q3:=⟨_,rfl⟩;have e8:arith .add .i64 A q3=k:=by rw[hk];exact aF hA om om
 refine hA.aQ Try.func104 x104.2 (hA.alike _ _ _ rfl) aq (zc ?_);rw[aW hA,aV hA];have x1:Ext h (h.push 1 [Value.int .i64 0]):=.push _ _ _;have o1:=aJ.push h 1 [Value.int .i64 0];have n1:(h.push 1 [Value.int .i64 0]).next=h.next+1:=rfl;generalize h.push 1 [Value.int .i64 0]=h1 at *;obtain⟨sb,WE⟩:∃z,z=h.next:=⟨_,rfl⟩;rw[<-WE]at o1 ⊢;have t1:=t.more x1;have s1:wE h0 h1 b sb (.int .i64 0):=⟨o1,om,by have:=t.ext.next;omega,by have:=t.lt;omega⟩
 (refine zq ?_;repeat ((first|rw[e1]|rw[e2]|rw[e3]|rw[e6]|rw[e4]|rw[e7]|rw[e5]|rw[e8]);refine zq ?_))
 refine br (8<=l) (by rw[cA hA]) (fun _=>?_) (fun z=>om)<;>refine zc ?_;have tail:∀(h5:af) (r w5:Int),bB h0 h5 b n L->wE h0 h5 b sb (.int .i64 w5)->A<=r->r<B->rd h5 sb 0 1 [.int .i64 w5]:=fun h5 r w5 t5 s5 _ _=>iQ hA (s5.own.aL (o:=0) (n:=1) (by simp))
 refine br (50<=l) (by rw[cA hA]) (fun c50=>?_) (fun c50=>?_)<;>refine zc ?_
 ·refine qx hA da (i:=i) om om t1 s1 (fun h2 i2 w2 t2 s2 m2=>⟨_,rfl,?_⟩)
  refine zc ?_;refine qx hA da (i:=j) om om t2 s2 (fun h3 j3 w3 t3 s3 m3=>⟨_,rfl,?_⟩);refine zc ?_;refine qx hA da (i:=k) om om t3 s3 (fun h4 k4 w4 t4 s4 m4=>⟨_,rfl,?_⟩);refine zc ?_;refine uW hA da (i:=i2) (j:=j3) (k:=k4) om om om om om om t4 s4 (fun h5 r w5 t5 s5 m5=>⟨_,rfl,?_⟩);have r5:=tail h5 r w5 t5 s5 om om;refine zq ?_;refine br (w5=0) (by rw[dg hA]) (fun _=>?_) (fun _=>?_)<;>refine zc ?_
  ·exact hQ h5 r _ t5 om om
  refine br (w5=12) (by rw[dg hA]) (fun _=>?_) (fun _=>?_)<;>refine zc ?_
  ·exact hQ h5 r _ t5 om om
  ·exact hQ h5 r _ t5 om om
 ·refine uW hA da (i:=i) (j:=j) (k:=k) om om om om om om t1 s1 (fun h5 r w5 t5 s5 m5=>⟨_,rfl,?_⟩)
  have r5:=tail h5 r w5 t5 s5 om om;refine zq ?_;refine br (w5=0) (by rw[dg hA]) (fun _=>?_) (fun _=>?_)<;>refine zc ?_
  ·exact hQ h5 r _ t5 om om
  refine br (w5=12) (by rw[dg hA]) (fun _=>?_) (fun _=>?_)<;>refine zc ?_
  ·exact hQ h5 r _ t5 om om
  ·exact hQ h5 r _ t5 om om
theorem Ow{h0:af}(aq:h0.low<=h0.next){b n c:Nat}{L0:List LE}{A B:Int}(a0:0<=A)(bn:B<=n){Q:Exit->SS->Prop}
  (hQ:∀h' L e kn,bB h0 h' b n L->aG A B L0 L->Q (.exit 0) ⟨e,kn,[],h'⟩) :
  ∀(m:Nat) (i j:Int) (h:af) (L:List LE),(j-i).toNat<=m->A<=i->j<B->bB h0 h b n L->aG A B L0 L->
   head 105 2 0 ⟨[(0,.slice (some ⟨b,0,none⟩) n c),(8,.int .i64 i),(9,.int .i64 j)],0,[],h⟩ Q:=by
 intro m
 induction m with
 |zero=>
  intro i j h L hm i0 j1 t hp;refine hA.ar Try.func105 x105.2 (zc ?_);refine br (i<j) (by rw[aB hA]) (fun q=>om) (fun _=>?_)<;>refine zc ?_;exact hQ h L _ _ t hp
 |succ m ih=>
  intro i j h L hm i0 j1 t hp;have gB:=t.gB;refine hA.ar Try.func105 x105.2 (zc ?_);refine br (i<j) (by rw[aB hA]) (fun ci=>?_) (fun _=>?_)<;>refine zc ?_
  rotate_left
  ·exact hQ h L _ _ t hp
  have e1:arith .add .i64 i 1=i+1:=aF hA om om;have e2:arith .sub .i64 j 1=j-1:=bR hA om om;obtain⟨i2,EC⟩:∃z,z=i+1:=⟨_,rfl⟩;obtain⟨j3,US⟩:∃z,z=j-1:=⟨_,rfl⟩;rw[<-EC]at e1;rw[<-US]at e2;obtain⟨h5,sF⟩:∃z,z=aH h 16:=⟨_,rfl⟩;have x5:Ext h h5:=by rw[sF];exact av hA _ _
  have t5:=t.more x5;obtain⟨Q6,Q7,Q8,b5,g5,f5,r5⟩:=t5.read (i:=i) om om;obtain⟨CU,CV,CW,Q9,Dd,PF,CX⟩:=t5.read (i:=j) om om;have q5:=aC hA r5;have Mu:=aC hA CX;rw[<-sF];obtain⟨SX,De,p5,SY,Di⟩:=dc hA t5 (i:=i) (j:=j) om om om om g5 Dd
  (refine zq ?_;repeat ((first|rw[e1]|rw[e2]);refine zq ?_))
  exact ih i2 j3 De _ om om om Di (hp.trans (aG.swap L a0 (by have:=t.len;omega) om om om om))
theorem UU{h0 h:af}(aq:h0.low<=h0.next){b n c:Nat}{L:List LE}{A B:Int}(a0:0<=A)(ab:A<=B)(bn:B<=n)(t:bB h0 h b n L){Q:Value->af->Prop}
  (hQ:∀h' L',bB h0 h' b n L'->aG A B L L'->Q (.tuple #[]) h'):call 105 [.slice (some ⟨b,0,none⟩) n c,.int .i64 A,.int .i64 B,.func (.func 70) #[] #[]] h Q:=by
 have da:=aq
 replace aq:=t.ext.az aq
 have gB:=t.gB;refine hA.aQ Try.func105 x105.2 (hA.alike _ _ _ rfl) aq (zc ?_);rw[bR hA om om];refine Ow hA da (L0:=L) a0 bn (fun h' L' e kn t' hp=>?_) (B-1-A).toNat A (B-1) h L (Nat.le_refl _) om om t (.refl _ _ _);refine zc ?_;exact hQ h' L' t' hp
theorem zl{h0 h:af}{b n sb:Nat}{L:List LE}{w:Value}(t:bB h0 h b n L)(s:wE h0 h b sb w){i j:Int}(i0:0<=i)(i1:i<n)(j0:0<=j)(j1:j<n){ax ay:Option Addr}{nx cx ny cy:Nat}{x2 y2:List Int}(g1:gt L i=⟨⟨ax,nx,cx⟩,x2⟩)(g2:gt L j=⟨⟨ay,ny,cy⟩,y2⟩) :
  ∃h1 h2,wr h b (place 0 i 1) [.slice ay ny cy] h1/\wr h1 b (place 0 j 1) [.slice ax nx cx] h2/\bB h0 h2 b n (dy L i j)/\wE h0 h2 b sb w:=by
 have o1:=t.ok i i0 i1;have o2:=t.ok j j0 j1;rw[g1]at o1;rw[g2]at o2;have key:∀{h:af} {L:List LE} {i:Int} {x:LE},0<=i->i<n->x.OK h0->bB h0 h b n L->wE h0 h b sb w->∃h',wr h b (place 0 i 1) x.cells h'/\bB h0 h' b n (L.set i.toNat x)/\wE h0 h' b sb w:=fun {h L i x} i0 i1 hx t s=>by
  obtain⟨h',w1,t1,w3⟩:=t.put i0 i1 (x:=x) hx;exact⟨h',wZ hA (by rw[Nat.zero_add];exact w1),t1,⟨w3.own s.own s.ne,by rw[w3.next];exact s.lt,s.cJ,s.ne⟩⟩
 obtain⟨h1,w1,t1,s1⟩:=key i0 i1 (x:=⟨⟨ay,ny,cy⟩,y2⟩) o2 t s;obtain⟨h2,w2,t2,s2⟩:=key j0 j1 (x:=⟨⟨ax,nx,cx⟩,x2⟩) o1 t1 s1;refine⟨h1,h2,w1,w2,?_,s2⟩;unfold dy;rw[g1,g2];exact t2
theorem HE(a b:Int):0<=arith .xor .u64 a b/\arith .xor .u64 a b<18446744073709551616:=by
 rw[Wk hA,nF];omega
theorem Ox{h:af}(aq:h.low<=h.next){x:Int}(hx:u64 x){Q:Value->af->Prop}(hQ:∀n:Int,isLen x n->Q (.int .i64 n) h):call 87 [.int .u64 x] h Q:=by
 refine hA.aQ Try.func87 x87.2 (hA.alike _ _ _ rfl) aq (zc ?_);refine EX hA aq hx (fun n hn=>⟨_,rfl,?_⟩);refine zc ?_;exact hQ n hn
theorem Oy{h:af}(aq:h.low<=h.next){l:Int}(l0:0<l)(l1:l<=100000){Q:Value->af->Prop}(hQ:∀(k:Nat) (M:Int),k<=40->M=2 ^ k->l<=M->M<=2*l->Q (.int .u64 M) h):call 121 [.int .i64 l] h Q:=by
 refine hA.aQ Try.func121 x121.2 (hA.alike _ _ _ rfl) aq (zc ?_);rw[ml hA om om];refine Ox hA aq (by unfold u64;omega) (fun n hn=>⟨_,rfl,?_⟩);obtain⟨n0,n1,n2⟩:=hn;obtain⟨k,hk⟩:∃k:Nat,n=k:=⟨n.toNat,om⟩;rw[hk,Int.toNat_natCast]at n1 n2;rw[show max l 1=l by omega]at n2;have Yl:k<=40:=by
  by_cases c:k<=40
  ·exact c
  ·have h1:=Nat.pow_le_pow_right (n:=2) om (show 40<=k by omega)
   have h2:((2 ^ 40:Nat):Int)<=((2 ^ k:Nat):Int):=by exact_mod_cast h1
   have h3:((2 ^ k:Nat):Int)=2 ^ k:=by push_cast;rfl
   have h4:((2 ^ 40:Nat):Int)=1099511627776:=by decide
   omega
 have es:arith .shl .u64 1 n=2 ^ k:=by
  rw[Gg hA 1 k om hk,Int.one_mul];exact Int.emod_eq_of_lt (Int.le_of_lt (Int.pow_pos om)) om
 obtain⟨M,hM⟩:∃z:Int,z=2 ^ k:=⟨_,rfl⟩;rw[<-hM]at es n1 n2;refine zq ?_;rw[es];exact hQ k M Yl hM (Int.le_of_lt n1) n2
theorem Re{h0 h:af}(aq:h0.low<=h0.next){b n sb:Nat}{L:List LE}{w:Int}(t:bB h0 h b n L)(s:wE h0 h b sb (.int .u64 w)){Q:Value->af->Prop}
  (hQ:∀h' r w',u64 r->bB h0 h' b n L->wE h0 h' b sb (.int .u64 w')->Q (.int .u64 r) h'):call 122 [.pointer (some ⟨sb,0,none⟩)] h Q:=by
 have da:=aq
 replace aq:=t.ext.az aq
 refine hA.aQ Try.func122 x122.2 (hA.alike _ _ _ rfl) aq (zc ?_);obtain⟨g0,hg0⟩:∃z,z=aH h 10:=⟨_,rfl⟩;have x0:Ext h g0:=by rw[hg0];exact av hA _ _
 have t0:=t.more x0;have s0:=s.more x0;rw[<-hg0];obtain⟨w0,kD⟩:∃z,z=arith .xor .u64 w (arith .shl .u64 w 13):=⟨_,rfl⟩;have b0:=HE hA w (arith .shl .u64 w 13);have r0:rd g0 sb 0 1 [.int .u64 w]:=iQ hA (s0.own.aL (o:=0) (n:=1) (by simp));obtain⟨y0,p0,s0',t0'⟩:=s0.put t0 (.int .u64 w0);have p0':wr g0 sb 0 [.int .u64 w0] y0:=kI hA p0;rw[kD]at p0';refine zq ?_;rw[<-kD]at b0;obtain⟨g1,Vv⟩:∃z,z=aH y0 10:=⟨_,rfl⟩;have x1:Ext y0 g1:=by rw[Vv];exact av hA _ _
 have t1:=t0'.more x1;have s1:=s0'.more x1;rw[<-Vv];obtain⟨w1,oO⟩:∃z,z=arith .xor .u64 w0 (arith .shr .u64 w0 7):=⟨_,rfl⟩;have b1:=HE hA w0 (arith .shr .u64 w0 7);have r1:rd g1 sb 0 1 [.int .u64 w0]:=iQ hA (s1.own.aL (o:=0) (n:=1) (by simp));obtain⟨y1,p1,s1',t1'⟩:=s1.put t1 (.int .u64 w1);have p1':wr g1 sb 0 [.int .u64 w1] y1:=kI hA p1;rw[oO]at p1';refine zq ?_;rw[<-oO]at b1;obtain⟨g2,Vw⟩:∃z,z=aH y1 10:=⟨_,rfl⟩;have x2:Ext y1 g2:=by rw[Vw];exact av hA _ _
 have t2:=t1'.more x2;have s2:=s1'.more x2;rw[<-Vw];obtain⟨w2,pv⟩:∃z,z=arith .xor .u64 w1 (arith .shl .u64 w1 17):=⟨_,rfl⟩;have b2:=HE hA w1 (arith .shl .u64 w1 17);have r2:rd g2 sb 0 1 [.int .u64 w1]:=iQ hA (s2.own.aL (o:=0) (n:=1) (by simp));obtain⟨y2,p2,P8,t2'⟩:=s2.put t2 (.int .u64 w2);have Yg:wr g2 sb 0 [.int .u64 w2] y2:=kI hA p2;rw[pv]at Yg;refine zq ?_;rw[<-pv]at b2;have r9:rd y2 sb 0 1 [.int .u64 w2]:=iQ hA (P8.own.aL (o:=0) (n:=1) (by simp));refine zq ?_;exact hQ y2 w2 w2 ⟨b2.1,b2.2⟩ t2' P8
theorem HF{h0:af}(aq:h0.low<=h0.next){b n c sb k:Nat}{L0:List LE}{A B l:Int}(a0:0<=A)(ab:A+12<B)(bn:B<=n)(hl:l=B-A){M:Int}(Yl:k<=40)(hM:M=2 ^ k)(k0:l<=M)(k1:M<=2*l){Q:Exit->SS->Prop}
  (hQ:∀h' L e kn,bB h0 h' b n L->aG A B L0 L->Q (.exit 0) ⟨e,kn,[],h'⟩) :
  ∀(m:Nat) (i:Int) (h:af) (L:List LE) (w:Int),(A+l / 4*2+3-i).toNat<=m->i<=A+l / 4*2+2->A+l / 4*2-1<=i->bB h0 h b n L->aG A B L0 L->wE h0 h b sb (.int .u64 w)->
   head 103 5 0 ⟨[(0,.slice (some ⟨b,0,none⟩) n c),(1,.int .i64 A),(8,.int .i64 l),(9,.pointer (some ⟨sb,0,none⟩)),(10,.int .u64 M),(11,.int .i64 i)],0,[],h⟩ Q:=by
 intro m
 induction m with
 |zero=>intro i h L w hm i9 i0 t hp s;omega
 |succ m ih=>
 intro i h L w hm i9 i0 t hp s;have gB:=t.gB;have e2:arith .quo .i64 l 4=l / 4:=sQ hA om om om;obtain⟨q,hq⟩:∃z,z=l / 4:=⟨_,rfl⟩;rw[<-hq]at e2 hm i0 i9;obtain⟨q2,C9⟩:∃z,z=q*2:=⟨_,rfl⟩;have e4:arith .mul .i64 q 2=q2:=by rw[C9];exact jh hA om om
 rw[<-C9]at hm i0 i9;obtain⟨j,hj⟩:∃z,z=A+q2:=⟨_,rfl⟩;have e7:arith .add .i64 A q2=j:=by rw[hj];exact aF hA om om
 obtain⟨j1,hj1⟩:∃z,z=j+1:=⟨_,rfl⟩;have e8:arith .add .i64 j 1=j1:=by rw[hj1];exact aF hA om om
 refine hA.ar Try.func103 x103.2 (zc ?_)
 (refine zq ?_;repeat ((first|rw[e2]|rw[e4]|rw[e7]|rw[e8]);refine zq ?_))
 refine br (i<=j1) (by rw[jE hA]) (fun ci=>?_) (fun _=>?_)<;>refine zc ?_
 rotate_left
 ·exact hQ h L _ _ t hp
 refine Re hA aq t s (fun h1 r w1 hr t1 s1=>⟨_,rfl,?_⟩);obtain⟨M1,hM1⟩:∃z,z=M-1:=⟨_,rfl⟩;have e9:arith .sub .u64 M 1=M1:=by rw[hM1];exact vN hA om om
 have eA:arith .and .u64 r M1=r % M:=by rw[H5 hA hr.1 hr.2 k om (by rw[hM1,hM]),hM]
 obtain⟨o,ho⟩:∃z,z=r % M:=⟨_,rfl⟩;have o0:0<=o:=by rw[ho];exact Int.emod_nonneg _ om
 have o1:o<M:=by rw[ho];exact Int.emod_lt_of_pos _ om
 rw[<-ho]at eA;have eC:conv .i64 o=o:=kx hA om om;refine zc ?_;rw[e9,eA,eC];have e5:arith .add .i64 i 1=i+1:=aF hA om om;obtain⟨i1,hi1⟩:∃z,z=i+1:=⟨_,rfl⟩;rw[<-hi1]at e5;have go:∀o:Int,0<=o->o<l->∃x:Int,x=A+o/\0<=x/\A<=x/\x<B/\x<n/\arith .add .i64 A o=x:=fun o p1 p2=>⟨A+o,rfl,om,om,om,om,aF hA om om⟩
 refine br (l<=o) (by rw[cA hA]) (fun co=>?_) (fun co=>?_)<;>refine zc ?_
 ·have eS:arith .sub .i64 o l=o-l:=bR hA om om
  obtain⟨o',mD⟩:∃z,z=o-l:=⟨_,rfl⟩;rw[<-mD]at eS;rw[eS];obtain⟨x,hx,x0,xA,xB,xn,eX⟩:=go o' om om;obtain⟨h5,sF⟩:∃z,z=aH h1 20:=⟨_,rfl⟩;have x5:Ext h1 h5:=by rw[sF];exact av hA _ _
  have t5:=t1.more x5;obtain⟨Q6,Q7,Q8,b5,g5,f5,r5⟩:=t5.read (i:=i) om om;obtain⟨CU,CV,CW,Q9,Dd,PF,CX⟩:=t5.read (i:=x) om om;have q5:=aC hA r5;have Mu:=aC hA CX;rw[<-sF];obtain⟨SX,De,p5,SY,Di,s5d⟩:=zl hA t5 (s1.more x5) (i:=i) (j:=x) om om om om g5 Dd
  (refine zq ?_;repeat ((first|rw[eX]|rw[e5]);refine zq ?_))
  exact ih i1 De _ w1 om om om Di (hp.trans (aG.swap L a0 (by have:=t.len;omega) om om om om)) s5d
 ·obtain⟨x,hx,x0,xA,xB,xn,eX⟩:=go o om om
  obtain⟨h5,sF⟩:∃z,z=aH h1 20:=⟨_,rfl⟩;have x5:Ext h1 h5:=by rw[sF];exact av hA _ _
  have t5:=t1.more x5;obtain⟨Q6,Q7,Q8,b5,g5,f5,r5⟩:=t5.read (i:=i) om om;obtain⟨CU,CV,CW,Q9,Dd,PF,CX⟩:=t5.read (i:=x) om om;have q5:=aC hA r5;have Mu:=aC hA CX;rw[<-sF];obtain⟨SX,De,p5,SY,Di,s5d⟩:=zl hA t5 (s1.more x5) (i:=i) (j:=x) om om om om g5 Dd
  (refine zq ?_;repeat ((first|rw[eX]|rw[e5]);refine zq ?_))
  exact ih i1 De _ w1 om om om Di (hp.trans (aG.swap L a0 (by have:=t.len;omega) om om om om)) s5d
theorem Oz{h0 h:af}(aq:h0.low<=h0.next){b n c:Nat}{L:List LE}{A B:Int}(a0:0<=A)(ab:A+12<B)(bn:B<=n)(t:bB h0 h b n L){Q:Value->af->Prop}
  (hQ:∀h' L',bB h0 h' b n L'->aG A B L L'->Q (.tuple #[]) h'):call 103 [.slice (some ⟨b,0,none⟩) n c,.int .i64 A,.int .i64 B,.func (.func 70) #[] #[]] h Q:=by
 have da:=aq
 replace aq:=t.ext.az aq
 have gB:=t.gB;refine hA.aQ Try.func103 x103.2 (hA.alike _ _ _ rfl) aq (zc ?_);obtain⟨l,hl⟩:∃z,z=B-A:=⟨_,rfl⟩;have e1:arith .sub .i64 B A=l:=by rw[hl];exact bR hA om om
 rw[e1];have e2:arith .quo .i64 l 4=l / 4:=sQ hA om om om;obtain⟨q,hq⟩:∃z,z=l / 4:=⟨_,rfl⟩;rw[<-hq]at e2;obtain⟨q2,C9⟩:∃z,z=q*2:=⟨_,rfl⟩;have e4:arith .mul .i64 q 2=q2:=by rw[C9];exact jh hA om om
 obtain⟨j,hj⟩:∃z,z=A+q2:=⟨_,rfl⟩;have e7:arith .add .i64 A q2=j:=by rw[hj];exact aF hA om om
 obtain⟨j1,hj1⟩:∃z,z=j-1:=⟨_,rfl⟩;have e8:arith .sub .i64 j 1=j1:=by rw[hj1];exact bR hA om om
 refine br (8<=l) (by rw[cA hA]) (fun _=>?_) (fun z=>om)<;>refine zc ?_;rw[aW hA,aV hA,ml hA om om];have x1:Ext h (h.push 1 [Value.int .u64 0]):=.push _ _ _;have o1:=aJ.push h 1 [Value.int .u64 0];have n1:(h.push 1 [Value.int .u64 0]).next=h.next+1:=rfl;generalize h.push 1 [Value.int .u64 0]=h1 at *;obtain⟨sb,WE⟩:∃z,z=h.next:=⟨_,rfl⟩;rw[<-WE]at o1 ⊢;have t1:=t.more x1;have s1:wE h0 h1 b sb (.int .u64 0):=⟨o1,om,by have:=t.ext.next;omega,by have:=t.lt;omega⟩;obtain⟨h2,p2,s2,t2⟩:=s1.put t1 (.int .u64 l);have Yg:wr h1 sb 0 [.int .u64 l] h2:=kI hA p2;refine zq ?_;have aq:=t2.ext.az da;refine Oy hA aq om om (fun k M Yl hM m0 m1=>⟨_,rfl,?_⟩)
 (refine zq ?_;repeat ((first|rw[e2]|rw[e4]|rw[e7]|rw[e8]);refine zq ?_))
 refine HF hA da (L0:=L) (c:=c) (l:=l) (B:=B) (M:=M) (k:=k) a0 ab bn hl Yl hM m0 m1 (fun h' L' e kn t' hp=>?_) (A+l / 4*2+3-j1).toNat j1 h2 L l (Nat.le_refl _) om om t2 (.refl _ _ _) s2;refine zc ?_;exact hQ h' L' t' hp
