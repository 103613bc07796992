import Derived.Test.YtdpbiegfljmhmaaGreatDetK
import Derived.Test.YtdpbiegfljmhmaaGreatSimD
import Derived.Test.YtdpbiegfljmhmaaGreatDetH
set_option linter.unusedSimpArgs false
set_option linter.unusedVariables false
namespace Go.Proofs.YtdpbiegfljmhmaaGreat.Ext
theorem H5{s:Nat}(M:Nat->Nat->Int){a b:Nat}(ha:a<s)(hb:b<s)(e:a≠b):dt s (fun x y=>M (sw a b x) y)=- dt s M:=by
 have h4:s<=4\/5<=s:=om
 rcases h4 with h4|h4
 rotate_left
 ·obtain⟨t,rfl⟩:∃t,s=t+5:=⟨s-5,om⟩
  rfl
 have hs:s=0\/s=1\/s=2\/s=3\/s=4:=om
 have Rm:a=0\/a=1\/a=2\/a=3:=om
 have vr:b=0\/b=1\/b=2\/b=3:=om
 rcases hs with rfl|rfl|rfl|rfl|rfl<;>rcases Rm with rfl|rfl|rfl|rfl<;>rcases vr with rfl|rfl|rfl|rfl<;>first|(exfalso;omega)|(simp only[dt,sw,d4,d3,d2];grind)
theorem Eg{s:Nat}(M:Nat->Nat->Int){a b:Nat}(ha:a<s)(hb:b<s)(e:a≠b)(h:∀y,y<s->M a y=M b y):dt s M=0:=by
 have h1:=H5 M ha hb e;have h2:dt s (fun x y=>M (sw a b x) y)=dt s M:=eV fun x y hx hy=>by
  unfold sw;by_cases c:x=a
  ·rw[if_pos c,c];exact(h y hy).symm
  ·rw[if_neg c]
   by_cases d:x=b
   ·rw[if_pos d,d];exact h y hy
   ·rw[if_neg d]
 omega
theorem GD{s:Nat}(M:Nat->Nat->Int){a:Nat}(ha:a<s)(u v:Nat->Int)(p q:Int):dt s (fun x y=>if x=a then p*u y+q*v y else M x y)=p*dt s (fun x y=>if x=a then u y else M x y)+q*dt s (fun x y=>if x=a then v y else M x y):=by
 have h4:s<=4\/5<=s:=om
 rcases h4 with h4|h4
 rotate_left
 ·obtain⟨t,rfl⟩:∃t,s=t+5:=⟨s-5,om⟩
  simp[dt]
 have hs:s=0\/s=1\/s=2\/s=3\/s=4:=om
 have Rm:a=0\/a=1\/a=2\/a=3:=om
 rcases hs with rfl|rfl|rfl|rfl|rfl<;>rcases Rm with rfl|rfl|rfl|rfl<;>first|(exfalso;omega)|(simp[dt,d4,d3,d2]<;>grind)
theorem MA{s:Nat}(M:Nat->Nat->Int){a:Nat}(ha:a<s)(c:Nat->Int)(U:Nat->Nat->Int):∀n,dt s (fun x y=>if x=a then aV (fun i=>c i*U i y) n else M x y)=aV (fun i=>c i*dt s (fun x y=>if x=a then U i y else M x y)) n
 |0=>by
  have:=GD M ha (fun _=>0) (fun _=>0) 0 0;simp only[Int.zero_mul,Int.mul_zero,Int.add_zero]at this;exact this
 |n+1=>by
  have:=GD M ha (fun y=>aV (fun i=>c i*U i y) n) (U n) 1 (c n);simp only[Int.one_mul]at this;show dt s (fun x y=>if x=a then aV (fun i=>c i*U i y) n+c n*U n y else M x y)=aV (fun i=>c i*dt s (fun x y=>if x=a then U i y else M x y)) n+c n*dt s (fun x y=>if x=a then U n y else M x y);rw[this,MA M ha c U n]
theorem re{d:Int}{f:Nat->Int}:∀n,(∀i,i<n->d∣f i)->d∣aV f n
 |0,_=>Int.dvd_zero d
 |n+1,h=>Int.dvd_add (re n (fun i hi=>h i om)) (h n om)
def lr(F:Nat->Nat->Int)(m n k:Nat)(d:Int):Prop:=∀r c:Nat->Nat,(∀i,i<k->r i<m)->(∀j,j<k->c j<n)->d∣dt k (fun i j=>F (r i) (c j))
theorem lr.rows{F G:Nat->Nat->Int}{m m' n k:Nat}{d:Int}(h:lr F m n k d)(e:∀i,i<m'->∃y:Nat->Int,∀j,j<n->G i j=aV (fun t=>y t*F t j) m):lr G m' n k d:=by
 have key:∀t,t<=k->∀r c:Nat->Nat,(∀i,i<k->i<k-t->r i<m)->(∀i,i<k->k-t<=i->r i<m')->(∀j,j<k->c j<n)->d∣dt k (fun i j=>if i<k-t then F (r i) (c j)else G (r i) (c j)):=by
  intro t
  induction t with
  |zero=>
   intro _ r c h1 h2 hc;rw[eV (N:=fun i j=>F (r i) (c j)) (fun i j hi hj=>by rw[if_pos om])];exact h r c (fun i hi=>h1 i hi om) hc
  |succ t ih=>
   intro ht r c h1 h2 hc;obtain⟨a,ea⟩:∃a,a=k-(t+1):=⟨_,rfl⟩;obtain⟨y,hy⟩:=e (r a) (h2 a om om);rw[eV (N:=fun i j=>if i=a then aV (fun u=>y u*F u (c j)) m else(fun i j=>if i<k-(t+1)then F (r i) (c j)else G (r i) (c j)) i j) (fun i j hi hj=>by
    by_cases q:i=a
    ·rw[if_pos q,if_neg om,q];exact hy _ (hc j hj)
    ·rw[if_neg q])]
   rw[MA _ om y (fun u j=>F u (c j)) m];refine re m (fun u hu=>Int.dvd_mul_of_dvd_right ?_);have:=ih om (fun i=>if i=a then u else r i) c (fun i hi hk=>by
    by_cases q:i=a
    ·simp only[if_pos q];exact hu
    ·simp only[if_neg q];exact h1 i hi om) (fun i hi hk=>by
    have:i≠a:=om
    simp only[if_neg this];exact h2 i hi om) hc
   rw[eV (N:=fun i j=>if i=a then F u (c j)else(fun i j=>if i<k-(t+1)then F (r i) (c j)else G (r i) (c j)) i j)]at this
   ·exact this
   ·intro i j hi hj
    by_cases q:i=a
    ·simp only[if_pos q];rw[if_pos om]
    ·simp only[if_neg q]
     by_cases w:i<k-(t+1)
     ·rw[if_pos w,if_pos om]
     ·rw[if_neg w,if_neg om]
 intro r c hr hc;have:=key k (Nat.le_refl _) r c (fun i _ hi=>om) (fun i hi _=>hr i hi) hc;rw[eV (N:=fun i j=>G (r i) (c j)) (fun i j hi hj=>by rw[if_neg om])]at this;exact this
theorem vH{k:Nat}(hk:k<=4):∀(N:Nat) (r:Nat->Nat),4*r 0+3*r 1+2*r 2+r 3<=N->(∀F:Nat->Nat->Int,dt k (fun i j=>F (r i) j)=0)\/∃r':Nat->Nat,(∀i,i+1<k->r' i<r' (i+1))/\(∀m,(∀i,i<k->r i<m)->∀i,i<k->r' i<m)/\∀F:Nat->Nat->Int,(dt k (fun i j=>F (r i) j)).natAbs=(dt k (fun i j=>F (r' i) j)).natAbs:=by
 intro N
 induction N with
 |zero=>
  intro r h;by_cases k2:2<=k
  ·left
   intro F;exact Eg _ (a:=0) (b:=1) om om om (fun y hy=>by rw[show r 0=r 1 by omega])
  ·right
   exact⟨r,fun i hi=>om,fun m hm=>hm,fun F=>rfl⟩
 |succ N ih=>
  intro r h;by_cases c:∃i,i+1<k/\¬r i<r (i+1)
  ·obtain⟨i,hi,hn⟩:=c
   by_cases e:r i=r (i+1)
   ·left
    intro F;exact Eg _ (a:=i) (b:=i+1) om om om (fun y hy=>by rw[e])
   ·have e0:∀x,sw i (i+1) x=if x=i then i+1 else if x=i+1 then i else x:=fun x=>rfl
    have hm:4*r (sw i (i+1) 0)+3*r (sw i (i+1) 1)+2*r (sw i (i+1) 2)+r (sw i (i+1) 3)<=N:=by
     have hi3:i=0\/i=1\/i=2:=om
     rcases hi3 with rfl|rfl|rfl<;>simp[sw]at *<;>omega
    have key:∀F:Nat->Nat->Int,(dt k (fun x j=>F (r x) j)).natAbs=(dt k (fun x j=>F (r (sw i (i+1) x)) j)).natAbs:=fun F=>by
     have:dt k (fun x j=>F (r (sw i (i+1) x)) j)=- dt k (fun x j=>F (r x) j):=H5 (fun x j=>F (r x) j) (a:=i) (b:=i+1) (show i<k by omega) hi om;omega
    rcases ih (fun x=>r (sw i (i+1) x)) hm with q|⟨r',a1,a2,a3⟩
    ·left
     intro F;have:=key F;rw[q F]at this;omega
    ·right
     refine⟨r',a1,fun m hm=>a2 m (fun x hx=>hm _ (Eh om hi hx)),fun F=>?_⟩;rw[key F];exact a3 F
  ·right
   refine⟨r,fun i hi=>?_,fun m hm=>hm,fun F=>rfl⟩;exact Classical.byContradiction fun q=>c ⟨i,hi,q⟩
theorem GF(n:Nat):∀(k f:Nat) (r:Nat->Nat),(∀i,i+1<k->r i<r (i+1))->(∀i,i<k->r i<n)->(0<k->f<=r 0)->(List.range k).map (fun i=>(r i:Int))∈ch n k f
 |0,f,r,_,_,_=>by simp[ch]
 |k+1,f,r,h1,h2,h3=>by
  have ih:=GF n k (r 0+1) (fun i=>r (i+1)) (fun i hi=>h1 (i+1) om) (fun i hi=>h2 (i+1) om) (fun hk=>h1 0 om);have f0:=h3 om;have l0:=h2 0 om;simp only[ch,List.mem_flatMap,List.mem_map];refine⟨r 0,List.mem_range'_1.2 ⟨f0,om⟩,_,ih,?_⟩;rw[List.range_succ_eq_map,List.map_cons,List.map_map];rfl
theorem Ei(r:Nat->Nat){k i:Nat}(h:i<k):gt ((List.range k).map (fun i=>(r i:Int))) (i:Int)=(r i:Int):=by
 unfold gt;rw[List.getD_eq_getElem?_getD];simp[h]
theorem lr.of{F:Nat->Nat->Int}{m n k:Nat}{d:Int}(hk:k<=4)(h:∀r c:Nat->Nat,(∀i,i+1<k->r i<r (i+1))->(∀j,j+1<k->c j<c (j+1))->(∀i,i<k->r i<m)->(∀j,j<k->c j<n)->d∣dt k (fun i j=>F (r i) (c j))):lr F m n k d:=by
 intro r c hr hc;rcases vH hk _ r (Nat.le_refl _)with q|⟨r',a1,a2,a3⟩
 ·rw[q (fun x j=>F x (c j))];exact Int.dvd_zero d
 ·rcases vH hk _ c (Nat.le_refl _)with q|⟨c',b1,b2,b3⟩
  ·have:=q (fun x j=>F (r j) x)
   rw[GG (fun i j=>F (r i) (c j))]at this;rw[this];exact Int.dvd_zero d
  ·have h0:=h r' c' a1 b1 (a2 m hr) (b2 n hc)
   have e1:=a3 (fun x j=>F x (c j));have e2:=b3 (fun x j=>F (r' j) x);rw[GG (fun i j=>F (r' i) (c j)),GG (fun i j=>F (r' i) (c' j))]at e2;rw[<-Int.dvd_natAbs]at h0 ⊢;rw[e1,e2];exact h0
theorem sB{g:List (List Int)}{m n k:Nat}(hk:k<=4)(d:Nat):d∣Dv g m n k↔lr (fun i j=>el g i j) m n k d:=by
 rw[H6 g m n k d];constructor
 ·intro h
  refine lr.of hk (fun r c h1 h2 hr hc=>?_);have:=h _ (GF m k 0 r h1 hr (fun _=>Nat.zero_le _)) _ (GF n k 0 c h2 hc (fun _=>Nat.zero_le _));unfold Ch at this;rw[eV (N:=fun i j=>el g (r i) (c j)) (fun i j hi hj=>by rw[Ei r hi,Ei c hj])]at this;exact Int.ofNat_dvd_left.2 this
 ·intro h r hr c hc
  have l1:=Cj m k 0 r hr;have l2:=Cj n k 0 c hc;have i1:=Ru m k 0 r hr;have i2:=Ru n k 0 c hc;have mem:∀(l:List Int) (i:Nat),i<l.length->gt l (i:Int)∈l:=fun l i hi=>by
   unfold gt;rw[List.getD_eq_getElem?_getD,show((i:Int)).toNat=i from rfl,List.getElem?_eq_getElem hi];exact List.getElem_mem hi
  have:=h (fun i=>(gt r (i:Int)).toNat) (fun j=>(gt c (j:Int)).toNat) (fun i hi=>by have:=i1 _ (mem r i om);omega) (fun j hj=>by have:=i2 _ (mem c j om);omega);rw[eV (N:=fun i j=>el g (gt r (i:Int)) (gt c (j:Int))) (fun i j hi hj=>by
   have h1:=i1 _ (mem r i om);have h2:=i2 _ (mem c j om);simp only;rw[Int.toNat_of_nonneg h1.1,Int.toNat_of_nonneg h2.1])]at this
  exact Int.ofNat_dvd_left.1 this
end Go.Proofs.YtdpbiegfljmhmaaGreat.Ext
namespace Go.Proofs.YtdpbiegfljmhmaaGreat
open Go.cV
set_option maxRecDepth 100000
structure oC(g:List (List Int))(m n r:Nat):Prop where
 lm:r<=m
 ln:r<=n
 nz:∀k,k<r->Ext.Dv g m n (k+1)≠0
 fin:r=m\/r=n\/Ext.Dv g m n (r+1)=0
theorem oC.uniq{g:List (List Int)}{m n r s:Nat}(h:oC g m n r)(k:oC g m n s):r=s:=by
 have one:∀{r s:Nat},oC g m n r->oC g m n s->¬r<s:=fun {r s} h k q=>by
  rcases h.fin with e|e|e
  ·have:=k.lm;omega
  ·have:=k.ln;omega
  ·exact k.nz r q e
 have:=one h k;have:=one k h;omega
def GH(g:List (List Int))(m n:Nat)(k:Nat):List Int:=kR (fun x=>(Ext.Dv g m n x:Int)) k
def Ej(g:List (List Int))(m n:Nat)(r:Nat):List Int:=kR (fun x=>((Ext.Dv g m n (x+1) / Ext.Dv g m n x:Nat):Int)) r
variable{F:bg}{call head d0 i0 j0 n0 o0 s0 t0 u0 uM ofNat v0 place w0 nz y0 rd wr push next z0 d1 f1 g1 j1 o1 s1 t1 u1 v1 w1 y1 z1 f2 g2 j2 m2 n2 lt ne o2 q2 s2 yn t2 u2 v2 w2 y2 z2:_}(hA:AP F ⟨call,head,d0,i0,j0,n0,o0,s0,t0,u0,uM,ofNat,v0,place,w0,nz,y0,rd,wr,push,next,z0,d1,f1,g1,j1,o1,s1,t1,u1,v1,w1,y1,z1,f2,g2,j2,m2,n2,lt,ne,o2,q2,s2,yn,t2,u2,v2,w2,y2,z2⟩)
include hA
theorem PT{h0:af}(dE:h0.low<=h0.next){m n ac:Nat}{aa:Option Addr}{dk:List Hd}{g:List (List Int)}(hM:oX g m n)(hg:pz nC 1 h0 aa m dk g){Q:Exit->SS->Prop}
  (hQ:∀(h':af) (b k c r:Nat),k=r+1->oC g m n r->H7 h' 1 b k c ((GH g m n k).flatMap nC)->h0.next<=b->Ext h0 h'->Q (.exit 0) ⟨[(3,.slice (some ⟨b,0,none⟩) k c)],0,[],h'⟩) :
  ∀(d k b c:Nat) (K:Int) (h:af),6-k<=d->1<=k->k<=m+1->k<=n+1->K=k->(∀x,x+1<k->Ext.Dv g m n (x+1)≠0)->H7 h 1 b k c ((GH g m n k).flatMap nC)->h0.next<=b->Ext h0 h->
   head 26 3 0 ⟨[(0,.slice aa m ac),(3,.slice (some ⟨b,0,none⟩) k c),(4,.int .i64 K)],0,[],h⟩ Q:=by
 intro d;have m4:=hM.m4;have n4:=hM.n4;have m1:=hM.m1;have n1:=hM.n1;obtain⟨M,eM⟩:∃z:Int,z=m:=⟨_,rfl⟩;have e1:ofNat m=M:=by rw[eM];exact aJ hA m
 obtain⟨N,eN⟩:∃z:Int,z=n:=⟨_,rfl⟩;have e2:ofNat n=N:=by rw[eN];exact aJ hA n
 obtain⟨W,eW⟩:∃z:Int,z=if N<M then N else M:=⟨_,rfl⟩
 have e3:uM M N=W:=by rw[eW,Tb hA]
 have hW:W=N/\N<=M\/W=M/\M<=N:=by rw[eW];split<;>omega
 have Ck:(gt g 0).length=n:=hM.row 0 om om;have row:=hg.row 0 om om;have Ah:=row.len;rw[Ck]at Ah
 induction d with
 |zero=>intro k b c K h hd k1 km kn;omega
 |succ d ih=>
 intro k b c K h hd k1 km kn eK hz B hb x;have ar:=x.aD dE;obtain⟨ab,ao,rfl,Rp,q1⟩:=(hg.ext x).jJ (i:=0) om om;rw[<-Ah]at q1;obtain⟨ra,era⟩:∃z,z=(gt dk 0).a:=⟨_,rfl⟩;obtain⟨rc,sS⟩:∃z,z=(gt dk 0).c:=⟨_,rfl⟩;rw[<-era,<-sS]at q1;have r1:rd h ab (place ao 0 1) 1 [.slice ra n rc]:=aE hA q1;refine hA.au Tryz.func26 x26.2 (zc ?_)
 (refine zq ?_;repeat ((first|rw[e1]|rw[e2]|rw[e3]);refine zq ?_))
 refine br (K<=W) (by rw[jL hA]) (fun ck=>?_) (fun ck=>?_)<;>refine zc ?_
 rotate_left
 ·exact hQ h b k c (k-1) om ⟨om,om,fun y hy=>hz y om,om⟩ B hb x
 refine zq ?_;refine GI hA ar hM (hg.ext x) eK om (fun v h1 ev x1=>⟨v,rfl,?_⟩);refine zq ?_;refine br (v=0) (by rw[cY hA]) (fun cz=>?_) (fun cz=>?_)<;>refine zc ?_
 ·refine hQ h1 b k c (k-1) om ⟨om,om,fun y hy=>hz y om,?_⟩ (B.ext x1) hb (x.trans x1)
  rw[show k-1+1=k by omega];omega
 obtain⟨nb,Fs⟩:∃z,z=next h1:=⟨_,rfl⟩;obtain⟨X,eX⟩:∃z,z=push h1 1 [.int .i64 v]:=⟨_,rfl⟩;refine zc ?_;rw[<-Fs,<-eX];refine zq ?_;refine MB hA (B.ext x1) om eX Fs (fun b' c' h' B2 k2 k3 k4=>?_);obtain⟨x2,vZ⟩:=k2 h0 (x.trans x1) hb;have ed:GH g m n k++[v]=GH g m n (k+1):=by
  unfold GH;rw[nH,ev]
 rw[ed]at B2;obtain⟨Yh,ek1⟩:∃z,z=k+1:=⟨_,rfl⟩;rw[<-ek1]at B2 ⊢;refine zq ?_;rw[aG hA om om];refine ih Yh b' c' (K+1) h' om om om om om (fun y hy=>?_) B2 vZ x2;by_cases e:y+1=k
 ·rw[e];omega
 ·exact hz y om
theorem vJ{h:af}(ar:h.low<=h.next){m n ac:Nat}{aa:Option Addr}{dk:List Hd}{g:List (List Int)}(hM:oX g m n)(hg:pz nC 1 h aa m dk g){Q:Value->af->Prop}
  (hQ:∀(h':af) (b k c r:Nat),k=r+1->oC g m n r->H7 h' 1 b k c ((GH g m n k).flatMap nC)->Ext h h'->Q (.slice (some ⟨b,0,none⟩) k c) h'):call 26 [.slice aa m ac] h Q:=by
 obtain⟨nb,Fs⟩:∃z,z=next h:=⟨_,rfl⟩;obtain⟨X,eX⟩:∃z,z=push h 1 [.int .i64 1]:=⟨_,rfl⟩;refine hA.aO Tryz.func26 x26.2 (hA.alike _ _ _ rfl) ar (zc ?_);rw[<-Fs,<-eX];refine zq ?_;rw[dy hA]at eX;rw[cX hA]at Fs;have xp:Ext h X:=by rw[eX];exact Ext.push h 1 _
 have B:H7 X 1 nb 1 1 ((GH g m n 1).flatMap nC):=by
  have:(GH g m n 1).flatMap nC=[.int .i64 1]:=by
   unfold GH kR;simp[List.range_succ,nC,Ext.Cl]
  rw[this,eX,Fs];exact⟨ct.push h 1 _,by simp[af.push],rfl,.inl rfl⟩
 refine PT hA ar hM hg (fun h' b k c r ek ir B' hb x=>?_) 5 1 nb 1 1 X om om om om rfl (fun y hy=>om) B om xp;refine zq ?_;exact hQ h' b k c r ek ir B' x
end Go.Proofs.YtdpbiegfljmhmaaGreat
namespace Go.Proofs.YtdpbiegfljmhmaaGreat
open Go.cV
namespace Ext
structure PU(A:Nat->Nat->Int)(m n r:Nat)(p:Nat->Nat):Prop where
 rm:r<=m
 lt:∀i,i<r->p i<n
 inc:∀i j,i<j->j<r->p i<p j
 zero:∀i j,i<r->j<p i->A i j=0
 ne:∀i,i<r->A i (p i)≠0
 low:∀i j,r<=i->i<m->j<n->A i j=0
theorem tG{k:Nat}{r:Nat->Nat}(h:∀i,i+1<k->r i<r (i+1)):∀i,i<k->i<=r i
 |0,_=>Nat.zero_le _
 |i+1,hi=>by have:=tG h i om;have:=h i hi;omega
theorem H8{s:Nat}(M:Nat->Nat->Int){a:Nat}(ha:a<s)(h:∀j,j<s->M a j=0):dt s M=0:=by
 have:=GD M ha (fun _=>0) (fun _=>0) 0 0;simp only[Int.zero_mul,Int.add_zero]at this;rw[eV (N:=M) (fun x y hx hy=>by
  by_cases c:x=a
  ·rw[if_pos c,c,h y hy]
  ·rw[if_neg c])]at this
 exact this
theorem PU.over{A:Nat->Nat->Int}{m n r:Nat}{p:Nat->Nat}(e:PU A m n r p){k:Nat}(hk:k<=4)(h:r<k):lr A m n k 0:=by
 refine lr.of hk (fun r' c h1 h2 hr hc=>?_);have:=tG h1 (k-1) om;rw[H8 _ (a:=k-1) om (fun j hj=>e.low (r' (k-1)) (c j) om (hr (k-1) om) (hc j hj))];exact Int.dvd_refl 0
def nI(f:Nat->Int):Nat->Int
 |0=>1
 |n+1=>nI f n*f n
theorem Td{s:Nat}(hs:s<=4)(M:Nat->Nat->Int)(h:∀i j,i<s->j<i->M i j=0):dt s M=nI (fun i=>M i i) s:=by
 have e:s=0\/s=1\/s=2\/s=3\/s=4:=om
 rcases e with rfl|rfl|rfl|rfl|rfl
 ·rfl
 ·simp[dt,nI]
 ·have a:=h 1 0 om om
  simp[dt,nI,d2,a]
 ·have a:=h 1 0 om om
  have b:=h 2 0 om om;have c:=h 2 1 om om;simp[dt,nI,d3,d2,a,b,c];grind
 ·have a:=h 1 0 om om
  have b:=h 2 0 om om;have c:=h 2 1 om om;have d:=h 3 0 om om;have e:=h 3 1 om om;have f:=h 3 2 om om;simp[dt,nI,d4,d3,d2,a,b,c,d,e,f];grind
theorem Ek{f:Nat->Int}:∀n,(∀i,i<n->f i≠0)->nI f n≠0
 |0,_=>by show(1:Int)≠0;decide
 |n+1,h=>Int.mul_ne_zero (Ek n (fun i hi=>h i om)) (h n om)
theorem PU.minor{A:Nat->Nat->Int}{m n r:Nat}{p:Nat->Nat}(e:PU A m n r p){k:Nat}(hk:k<=4)(h:k<=r):dt k (fun i j=>A i (p j))=nI (fun i=>A i (p i)) k:=
 Td hk _ (fun i j hi hj=>e.zero i _ om (e.inc j i hj om))
theorem PU.under{A:Nat->Nat->Int}{m n r:Nat}{p:Nat->Nat}(e:PU A m n r p){k:Nat}(hk:k<=4)(h:k<=r):¬lr A m n k 0:=fun q=>by
 have h1:=q (fun i=>i) p (fun i hi=>by have:=e.rm;omega) (fun j hj=>e.lt j om);rw[e.minor hk h]at h1;exact Ek k (fun i hi=>e.ne i om) (Int.zero_dvd.1 h1)
theorem PU.full{A:Nat->Nat->Int}{m n:Nat}{p:Nat->Nat}(e:PU A m n n p)(hn:n<=4)(d:Nat):lr A m n n (d:Int)↔d∣(nI (fun i=>A i (p i)) n).natAbs:=by
 constructor
 ·intro q
  have h1:=q (fun i=>i) p (fun i hi=>by have:=e.rm;omega) (fun j hj=>e.lt j hj);rw[e.minor hn (Nat.le_refl _)]at h1;exact Int.ofNat_dvd_left.1 h1
 ·intro q
  have Cm:∀c:Nat->Nat,(∀j,j+1<n->c j<c (j+1))->(∀j,j<n->c j<n)->∀j,j<n->c j=j:=fun c h2 hc j hj=>by
   have h1:=tG h2 j hj;have up:∀t,j+t<n->c j+t<=c (j+t):=by
    intro t
    induction t with
    |zero=>intro _;exact Nat.le_refl _
    |succ t ih=>intro ht;have:=ih om;have:=h2 (j+t) om;rw[show j+(t+1)=j+t+1 by omega];omega
   have h3:=up (n-1-j) om;have h4:=hc (j+(n-1-j)) om;omega
  have pid:=Cm p (fun j hj=>e.inc j (j+1) om hj) (fun j hj=>e.lt j hj);refine lr.of hn (fun r c h1 h2 hr hc=>?_);have cid:=Cm c h2 hc;by_cases lo:∀i,i<n->r i<n
  ·have rid:=Cm r h1 lo
   rw[eV (N:=fun i j=>A i (p j)) (fun i j hi hj=>by rw[rid i hi,cid j hj,pid j hj]),e.minor hn (Nat.le_refl _)];exact Int.ofNat_dvd_left.2 q
  ·have:∃i,i<n/\n<=r i:=Classical.byContradiction fun w=>lo fun i hi=>Classical.byContradiction fun v=>w ⟨i,hi,om⟩
   obtain⟨a,ha,X8⟩:=this;rw[H8 _ ha (fun j hj=>e.low (r a) (c j) X8 (hr a ha) (hc j hj))];exact Int.dvd_zero _
end Ext
theorem bL.ZU{g:List (List Int)}{m n r s:Nat}{A:Nat->Ext.aR}(a:bL g m n r s A):Ext.PU A m n r (fun i=>Ext.aj (n+m) (A i)):=by
 have hs:=a.sum;refine⟨om,a.lo,fun i j hi hj=>a.PV.inc i j hi om,fun i j hi hj=>Ext.bB hj,fun i hi=>?_,fun i j h1 h2 h3=>Ext.bB (w:=n+m) (by have:=a.hi i h1 h2;omega)⟩;have:=a.PV.pos i om;omega
theorem bL.minors{g:List (List Int)}{m n r s:Nat}{A:Nat->Ext.aR}(a:bL g m n r s A){k:Nat}(d:Int):Ext.lr (fun i j=>Ext.el g i j) m n k d↔Ext.lr A m n k d:=by
 have ej:∀(i j:Nat),j<n->gU g n i j=Ext.el g i j:=fun i j hj=>by unfold gU;rw[if_pos hj];rfl
 constructor
 ·intro h
  refine h.rows (fun i hi=>?_);obtain⟨y,hy⟩:=a.C2.le i hi;exact⟨y,fun j hj=>by
   rw[hy j om];exact Ext.aQ m (fun t ht=>by rw[ej t j hj])⟩
 ·intro h
  refine h.rows (fun i hi=>?_);obtain⟨y,hy⟩:=a.C2.ge i hi;exact⟨y,fun j hj=>by rw[<-ej i j hj];exact hy j om⟩
theorem bL.ZV{g:List (List Int)}{m n r s:Nat}{A:Nat->Ext.aR}(hM:oX g m n)(a:bL g m n r s A):oC g m n r:=by
 have e:=a.ZU;have hs:=a.sum;have m4:=hM.m4;have rn:r<=n:=by
  cases r with
  |zero=>exact Nat.zero_le _
  |succ r=>
   have h1:r<=Ext.aj (n+m) (A r):=Ext.tG (k:=r+1) (r:=fun i=>Ext.aj (n+m) (A i)) (fun i hi=>e.inc i (i+1) om hi) r om;have h2:Ext.aj (n+m) (A r)<n:=e.lt r om;omega
 have z:∀k,k<=4->(Ext.Dv g m n k=0↔Ext.lr A m n k 0):=fun k hk=>by
  rw[<-a.minors (k:=k) 0];have:=Ext.sB (g:=g) (m:=m) (n:=n) hk 0;rw[Nat.zero_dvd]at this;exact this
 refine⟨om,rn,fun k hk=>?_,?_⟩
 ·rw[Ne,z (k+1) om]
  exact e.under om om
 ·by_cases c:r=m
  ·exact .inl c
  ·right;right
   rw[z (r+1) om];exact e.over om om
end Go.Proofs.YtdpbiegfljmhmaaGreat
namespace Go.Proofs.YtdpbiegfljmhmaaGreat.Ext
theorem Te{E y p q:Int}(h:y*y=E*p*y+E*E*q):E∣y:=by
 by_cases e0:E=0
 ·subst e0
  have:y*y=0:=by rw[h];simp
  have:y=0:=by rcases Int.mul_eq_zero.1 this with c|c<;>exact c
  rw[this];exact Int.dvd_zero 0
 obtain⟨g,eg⟩:∃g:Int,g=(Int.gcd y E:Int):=⟨_,rfl⟩;have g0:0<Int.gcd y E:=Int.gcd_pos_of_ne_zero_right y e0;obtain⟨a,ha⟩:g∣y:=by rw[eg];exact Int.gcd_dvd_left y E
 obtain⟨b,hb⟩:g∣E:=by rw[eg];exact Int.gcd_dvd_right y E
 have gn:g≠0:=om
 have ZW:Int.gcd a b=1:=by
  have h1:Int.gcd (g*a) (g*b)=g.natAbs*Int.gcd a b:=Int.gcd_mul_left ..;rw[<-ha,<-hb,eg,Int.natAbs_natCast]at h1;have h2:Int.gcd y E*1=Int.gcd y E*Int.gcd a b:=by rw[Nat.mul_one];exact h1
  exact(Nat.eq_of_mul_eq_mul_left g0 h2).symm
 have key:a*a=b*(p*a+b*q):=by
  have h2:g*g*(a*a)=g*g*(b*(p*a+b*q)):=by
   rw[ha,hb]at h;grind
  exact Int.eq_of_mul_eq_mul_left (Int.mul_ne_zero gn gn) h2
 have h3:b∣a*a:=⟨_,key⟩;have h4:b∣a:=by
  have h5:b.natAbs∣a.natAbs*a.natAbs:=by rw[<-Int.natAbs_mul];exact Int.natAbs_dvd_natAbs.2 h3
  exact Int.natAbs_dvd_natAbs.1 (Nat.Coprime.dvd_of_dvd_mul_left (show Nat.gcd b.natAbs a.natAbs=1 by rw[Nat.gcd_comm];exact ZW) h5)
 rw[ha,hb];exact Int.mul_dvd_mul_left g h4
theorem Al{D a b:Int}(h:D∣a)(k:D∣b):D*D∣a*b:=Int.mul_dvd_mul h k
theorem JO(a0 a1 a2 b0 b1 b2 c0 c1 c2 aq bq:Int):aq*d3 a0 a1 a2 b0 b1 b2 c0 c1 c2=-(d2 aq a0 bq b0*d2 a1 a2 c1 c2)+d2 aq a1 bq b1*d2 a0 a2 c0 c2-d2 aq a2 bq b2*d2 a0 a1 c0 c1:=by
 simp only[d3,d2];grind
theorem V8(x0 x1 x2 xq a0 a1 a2 aq b0 b1 b2 c0 c1 c2:Int):xq*d3 a0 a1 a2 b0 b1 b2 c0 c1 c2=(d2 xq x0 aq a0*d2 b1 b2 c1 c2-d2 xq x1 aq a1*d2 b0 b2 c0 c2+d2 xq x2 aq a2*d2 b0 b1 c0 c1)+aq*d3 x0 x1 x2 b0 b1 b2 c0 c1 c2:=by
 simp only[d3,d2];grind
theorem Cn{F:Nat->Nat->Int}{m n:Nat}{D:Int}(h:lr F m n 2 D){p q:Nat}{c d:Nat}(hp:p<m)(hq:q<m)(hc:c<n)(hd:d<n):D∣d2 (F p c) (F p d) (F q c) (F q d):=by
 have:=h (fun i=>if i=0 then p else q) (fun j=>if j=0 then c else d) (fun i hi=>by by_cases e:i=0<;>simp[e,hp,hq]) (fun i hi=>by by_cases e:i=0<;>simp[e,hc,hd]);simpa[dt]using this
theorem V9{F:Nat->Nat->Int}{m n:Nat}{D:Int}(h:lr F m n 2 D){r0 r1 r2 c0 c1 c2 q:Nat}(h0:r0<m)(h1:r1<m)(h2:r2<m)(k0:c0<n)(k1:c1<n)(k2:c2<n)(hq:q<n):D*D∣F r0 q*d3 (F r0 c0) (F r0 c1) (F r0 c2) (F r1 c0) (F r1 c1) (F r1 c2) (F r2 c0) (F r2 c1) (F r2 c2):=by
 rw[JO _ _ _ _ _ _ _ _ _ (F r0 q) (F r1 q)];refine Int.dvd_sub (Int.dvd_add (Int.dvd_neg.2 ?_) ?_) ?_
 ·exact Al (Cn h h0 h1 hq k0) (Cn h h0 h2 k1 k2)
 ·exact Al (Cn h h0 h1 hq k1) (Cn h h0 h2 k0 k2)
 ·exact Al (Cn h h0 h1 hq k2) (Cn h h0 h2 k0 k1)
theorem ZX{F:Nat->Nat->Int}{m n:Nat}{D:Int}(h:lr F m n 2 D){p r0 r1 r2 c0 c1 c2 q:Nat}(hp:p<m)(h0:r0<m)(h1:r1<m)(h2:r2<m)(k0:c0<n)(k1:c1<n)(k2:c2<n)(hq:q<n):D*D∣F p q*d3 (F r0 c0) (F r0 c1) (F r0 c2) (F r1 c0) (F r1 c1) (F r1 c2) (F r2 c0) (F r2 c1) (F r2 c2):=by
 obtain⟨u,hu⟩:=V9 h (r0:=p) hp h1 h2 k0 k1 k2 hq;obtain⟨v,hv⟩:=V9 h (r0:=r0) h0 h1 h2 k0 k1 k2 hq;have he:D*D∣d2 (F p q) (F p c0) (F r0 q) (F r0 c0)*d2 (F r1 c1) (F r1 c2) (F r2 c1) (F r2 c2)-d2 (F p q) (F p c1) (F r0 q) (F r0 c1)*d2 (F r1 c0) (F r1 c2) (F r2 c0) (F r2 c2)+d2 (F p q) (F p c2) (F r0 q) (F r0 c2)*d2 (F r1 c0) (F r1 c1) (F r2 c0) (F r2 c1):=
  Int.dvd_add (Int.dvd_sub (Al (Cn h hp h0 hq k0) (Cn h h1 h2 k1 k2)) (Al (Cn h hp h0 hq k1) (Cn h h1 h2 k0 k2))) (Al (Cn h hp h0 hq k2) (Cn h h1 h2 k0 k1))
 have hx:=V8 (F p c0) (F p c1) (F p c2) (F p q) (F r0 c0) (F r0 c1) (F r0 c2) (F r0 q) (F r1 c0) (F r1 c1) (F r1 c2) (F r2 c0) (F r2 c1) (F r2 c2);generalize d2 (F p q) (F p c0) (F r0 q) (F r0 c0)*d2 (F r1 c1) (F r1 c2) (F r2 c1) (F r2 c2)-d2 (F p q) (F p c1) (F r0 q) (F r0 c1)*d2 (F r1 c0) (F r1 c2) (F r2 c0) (F r2 c2)+d2 (F p q) (F p c2) (F r0 q) (F r0 c2)*d2 (F r1 c0) (F r1 c1) (F r2 c0) (F r2 c1)=e at he hx;obtain⟨t,ht⟩:=he;generalize d3 (F r0 c0) (F r0 c1) (F r0 c2) (F r1 c0) (F r1 c1) (F r1 c2) (F r2 c0) (F r2 c1) (F r2 c2)=M at *;generalize d3 (F p c0) (F p c1) (F p c2) (F r1 c0) (F r1 c1) (F r1 c2) (F r2 c0) (F r2 c1) (F r2 c2)=M' at *;generalize F p q=x at *;generalize F r0 q=a at *;generalize D*D=E at *;refine Te (p:=t) (q:=u*v) ?_;have e1:x*M*(x*M)=E*t*(x*M)+(x*M')*(a*M):=by
  rw[<-ht];have:x*M*(x*M)=(e+a*M')*(x*M):=by rw[<-hx]
  rw[this];grind
 rw[e1,hu,hv];grind
theorem Rv{p q:Nat}(h:p<q)(hq:q<4):∃r:Nat->Nat,(∀i,r i<4)/\r 2=p/\r 3=q/\∀G:Nat->Nat->Int,(dt 4 (fun i j=>G (r i) j)).natAbs=(dt 4 G).natAbs:=by
 have hc:(p=0/\q=1)\/(p=0/\q=2)\/(p=0/\q=3)\/(p=1/\q=2)\/(p=1/\q=3)\/(p=2/\q=3):=om
 rcases hc with ⟨rfl,rfl⟩|⟨rfl,rfl⟩|⟨rfl,rfl⟩|⟨rfl,rfl⟩|⟨rfl,rfl⟩|⟨rfl,rfl⟩
 ·refine⟨fun i=>if i=0 then 2 else if i=1 then 3 else if i=2 then 0 else 1,fun i=>by simp only;split<;>(try split)<;>(try split)<;>omega,rfl,rfl,fun G=>Int.natAbs_eq_natAbs_iff.2 (.inl ?_)⟩
  simp only[dt,d4,d3,d2,if_true,Nat.one_ne_zero,if_false,show(2:Nat)≠0 by decide,show(3:Nat)≠0 by decide,show(2:Nat)≠1 by decide,show(3:Nat)≠1 by decide,show(3:Nat)≠2 by decide];grind
 ·refine⟨fun i=>if i=0 then 1 else if i=1 then 3 else if i=2 then 0 else 2,fun i=>by simp only;split<;>(try split)<;>(try split)<;>omega,rfl,rfl,fun G=>Int.natAbs_eq_natAbs_iff.2 (.inr ?_)⟩
  simp only[dt,d4,d3,d2,if_true,Nat.one_ne_zero,if_false,show(2:Nat)≠0 by decide,show(3:Nat)≠0 by decide,show(2:Nat)≠1 by decide,show(3:Nat)≠1 by decide,show(3:Nat)≠2 by decide];grind
 ·refine⟨fun i=>if i=0 then 1 else if i=1 then 2 else if i=2 then 0 else 3,fun i=>by simp only;split<;>(try split)<;>(try split)<;>omega,rfl,rfl,fun G=>Int.natAbs_eq_natAbs_iff.2 (.inl ?_)⟩
  simp only[dt,d4,d3,d2,if_true,Nat.one_ne_zero,if_false,show(2:Nat)≠0 by decide,show(3:Nat)≠0 by decide,show(2:Nat)≠1 by decide,show(3:Nat)≠1 by decide,show(3:Nat)≠2 by decide];grind
 ·refine⟨fun i=>if i=0 then 0 else if i=1 then 3 else if i=2 then 1 else 2,fun i=>by simp only;split<;>(try split)<;>(try split)<;>omega,rfl,rfl,fun G=>Int.natAbs_eq_natAbs_iff.2 (.inl ?_)⟩
  simp only[dt,d4,d3,d2,if_true,Nat.one_ne_zero,if_false,show(2:Nat)≠0 by decide,show(3:Nat)≠0 by decide,show(2:Nat)≠1 by decide,show(3:Nat)≠1 by decide,show(3:Nat)≠2 by decide];grind
 ·refine⟨fun i=>if i=0 then 0 else if i=1 then 2 else if i=2 then 1 else 3,fun i=>by simp only;split<;>(try split)<;>(try split)<;>omega,rfl,rfl,fun G=>Int.natAbs_eq_natAbs_iff.2 (.inr ?_)⟩
  simp only[dt,d4,d3,d2,if_true,Nat.one_ne_zero,if_false,show(2:Nat)≠0 by decide,show(3:Nat)≠0 by decide,show(2:Nat)≠1 by decide,show(3:Nat)≠1 by decide,show(3:Nat)≠2 by decide];grind
 ·refine⟨fun i=>if i=0 then 0 else if i=1 then 1 else if i=2 then 2 else 3,fun i=>by simp only;split<;>(try split)<;>(try split)<;>omega,rfl,rfl,fun G=>rfl⟩
theorem ZY(a b c d e f g h i j k l m n o p:Int):d4 a b c d e f g h i j k l m n o p*d2 k l o p=d3 a c d i k l m o p*d3 f g h j k l n o p-d3 b c d j k l n o p*d3 e g h i k l m o p:=by
 simp only[d4,d3,d2];grind
theorem Rw{F:Nat->Nat->Int}{m n:Nat}{D:Int}(h:lr F m n 3 D){p0 p1 p2 c0 c1 c2:Nat}(h0:p0<m)(h1:p1<m)(h2:p2<m)(k0:c0<n)(k1:c1<n)(k2:c2<n):D∣d3 (F p0 c0) (F p0 c1) (F p0 c2) (F p1 c0) (F p1 c1) (F p1 c2) (F p2 c0) (F p2 c1) (F p2 c2):=by
 have:=h (fun i=>if i=0 then p0 else if i=1 then p1 else p2) (fun i=>if i=0 then c0 else if i=1 then c1 else c2) (fun i hi=>by by_cases e:i=0<;>by_cases e':i=1<;>simp[e,e',h0,h1,h2]) (fun i hi=>by by_cases e:i=0<;>by_cases e':i=1<;>simp[e,e',k0,k1,k2]);simpa[dt]using this
theorem ZZ{F:Nat->Nat->Int}{m n:Nat}(hm:4<=m)(hn:4<=n){D:Int}(h:lr F m n 3 D){p0 p1 q0 q1:Nat}(hp:p0<p1)(MC:p1<4)(hq:q0<q1)(hq4:q1<4):D*D∣dt 4 F*d2 (F p0 q0) (F p0 q1) (F p1 q0) (F p1 q1):=by
 obtain⟨r,r4,r2,r3,rd⟩:=Rv hp MC;obtain⟨c,c4,c2,c3,cd⟩:=Rv hq hq4;have e1:=rd (fun i j=>F i (c j));have e2:=cd (fun i j=>F j i);rw[GG F,GG (fun i j=>F i (c j))]at e2;rw[e2]at e1;have hr:=fun i=>Nat.lt_of_lt_of_le (r4 i) hm
 have hc:=fun i=>Nat.lt_of_lt_of_le (c4 i) hn
 have key:D*D∣dt 4 (fun i j=>F (r i) (c j))*d2 (F p0 q0) (F p0 q1) (F p1 q0) (F p1 q1):=by
  rw[<-r2,<-r3,<-c2,<-c3];simp only[dt];rw[ZY];exact Int.dvd_sub (Al (Rw h (hr _) (hr _) (hr _) (hc _) (hc _) (hc _)) (Rw h (hr _) (hr _) (hr _) (hc _) (hc _) (hc _))) (Al (Rw h (hr _) (hr _) (hr _) (hc _) (hc _) (hc _)) (Rw h (hr _) (hr _) (hr _) (hc _) (hc _) (hc _)))
 rcases Int.natAbs_eq_natAbs_iff.1 e1 with q|q
 ·rw[<-q];exact key
 ·rw[show dt 4 F=- dt 4 (fun i j=>F (r i) (c j)) by omega,Int.neg_mul]
  exact Int.dvd_neg.2 key
theorem H9{ι:Type}{P:ι->Prop}{f:ι->Nat}{G d M:Nat}(hG:∀e:Nat,(∀i,P i->e∣f i)->e∣G)(h:∀i,P i->d∣f i*M):d∣G*M:=by
 rcases Nat.eq_zero_or_pos M with e|m0
 ·rw[e,Nat.mul_zero];exact Nat.dvd_zero d
 obtain⟨g,eg⟩:∃g,g=Nat.gcd d M:=⟨_,rfl⟩;have g0:0<g:=by rw[eg];exact Nat.gcd_pos_of_pos_right d m0
 obtain⟨a,ha⟩:g∣d:=by rw[eg];exact Nat.gcd_dvd_left d M
 obtain⟨b,hb⟩:g∣M:=by rw[eg];exact Nat.gcd_dvd_right d M
 have ZW:Nat.gcd a b=1:=by
  have h1:Nat.gcd (g*a) (g*b)=g*Nat.gcd a b:=Nat.gcd_mul_left ..;rw[<-ha,<-hb,<-eg]at h1;have h2:g*1=g*Nat.gcd a b:=by rw[Nat.mul_one];exact h1
  exact(Nat.eq_of_mul_eq_mul_left g0 h2).symm
 have ag:a∣G:=hG a (fun i hi=>by
  have h1:=h i hi;rw[ha,hb]at h1;have h2:g*a∣g*(f i*b):=by rw[Nat.mul_left_comm];exact h1
  have h3:a∣f i*b:=Nat.dvd_of_mul_dvd_mul_left g0 h2;exact Nat.Coprime.dvd_of_dvd_mul_right ZW h3)
 rw[ha,hb,Nat.mul_left_comm];exact Nat.mul_dvd_mul_left g (Nat.dvd_trans ag (Nat.dvd_mul_right G b))
theorem MD{g:List (List Int)}{m n k:Nat}(m4:m<=4)(n4:n<=4)(hk:k<=2):Dv g m n (k+1)*Dv g m n (k+1)∣Dv g m n k*Dv g m n (k+2):=by
 obtain⟨F,eF⟩:∃F:Nat->Nat->Int,F=fun(i j:Nat)=>el g (i:Int) (j:Int):=⟨_,rfl⟩
 obtain⟨D,eD⟩:∃D,D=Dv g m n (k+1):=⟨_,rfl⟩;have hD:lr F m n (k+1) (D:Int):=by rw[eF];exact(sB om D).1 (by rw[eD];exact Nat.dvd_refl _)
 rw[<-eD];have key:∀r c:Nat->Nat,(∀i,i+1<k->r i<r (i+1))->(∀j,j+1<k->c j<c (j+1))->(∀i,i<k->r i<m)->(∀j,j<k->c j<n)->∀r' c':Nat->Nat,(∀i,i+1<k+2->r' i<r' (i+1))->(∀j,j+1<k+2->c' j<c' (j+1))->(∀i,i<k+2->r' i<m)->(∀j,j<k+2->c' j<n)->(D:Int)*D∣dt k (fun i j=>F (r i) (c j))*dt (k+2) (fun i j=>F (r' i) (c' j)):=by
  intro r c r1 c1 r2 c2 r' c' Wa Yi nJ Rx;have Am:k=0\/k=1\/k=2:=om
  rcases Am with rfl|rfl|rfl
  ·have Tf:∀i j,i<m->j<n->(D:Int)∣F i j:=fun i j hi hj=>hD (fun _=>i) (fun _=>j) (fun _ _=>hi) (fun _ _=>hj)
   show(D:Int)*D∣1*d2 _ _ _ _;rw[Int.one_mul];have a0:=nJ 0 om;have a1:=nJ 1 om;have b0:=Rx 0 om;have b1:=Rx 1 om;exact Int.dvd_sub (Al (Tf _ _ a0 b0) (Tf _ _ a1 b1)) (Al (Tf _ _ a0 b1) (Tf _ _ a1 b0))
  ·exact ZX hD (r2 0 om) (nJ 0 om) (nJ 1 om) (nJ 2 om) (Rx 0 om) (Rx 1 om) (Rx 2 om) (c2 0 om)
  ·have ri:∀i,i<4->r' i=i:=fun i hi=>by
    have h0:r' 0<r' 1:=Wa 0 om;have h1:r' 1<r' 2:=Wa 1 om;have h2:r' 2<r' 3:=Wa 2 om;have h3:=nJ 3 om;have zZ:i=0\/i=1\/i=2\/i=3:=om
    rcases zZ with rfl|rfl|rfl|rfl<;>omega
   have ci:∀i,i<4->c' i=i:=fun i hi=>by
    have h0:c' 0<c' 1:=Yi 0 om;have h1:c' 1<c' 2:=Yi 1 om;have h2:c' 2<c' 3:=Yi 2 om;have h3:=Rx 3 om;have zZ:i=0\/i=1\/i=2\/i=3:=om
    rcases zZ with rfl|rfl|rfl|rfl<;>omega
   have h3:=nJ 3 om;have Z0:=Rx 3 om;rw[ri 3 om]at h3;rw[ci 3 om]at Z0;rw[eV (s:=4) (M:=fun i j=>F (r' i) (c' j)) (N:=F) (fun i j hi hj=>by rw[ri i hi,ci j hj]),Int.mul_comm (dt 2 _)];exact ZZ om om hD (r1 0 om) (by have:=r2 1 om;omega) (c1 0 om) (by have:=c2 1 om;omega)
 have one:∀r c:Nat->Nat,(∀i,i+1<k->r i<r (i+1))->(∀j,j+1<k->c j<c (j+1))->(∀i,i<k->r i<m)->(∀j,j<k->c j<n)->D*D∣Dv g m n (k+2)*(dt k (fun i j=>F (r i) (c j))).natAbs:=by
  intro r c r1 c1 r2 c2;refine H9 (ι:=(Nat->Nat)×(Nat->Nat)) (P:=fun x=>(∀i,i+1<k+2->x.1 i<x.1 (i+1))/\(∀j,j+1<k+2->x.2 j<x.2 (j+1))/\(∀i,i<k+2->x.1 i<m)/\(∀j,j<k+2->x.2 j<n)) (f:=fun x=>(dt (k+2) (fun i j=>F (x.1 i) (x.2 j))).natAbs) (fun e he=>?_) (fun x hx=>?_)
  ·refine(sB om e).2 ?_
   rw[<-eF];exact lr.of om (fun r' c' h1 h2 h3 h4=>Int.ofNat_dvd_left.2 (he (r',c') ⟨h1,h2,h3,h4⟩))
  ·have:=key r c r1 c1 r2 c2 x.1 x.2 hx.1 hx.2.1 hx.2.2.1 hx.2.2.2
   rw[Int.mul_comm (dt k _)]at this;rw[<-Int.natAbs_mul];exact Int.ofNat_dvd_left.1 (by rw[Int.natCast_mul];exact this)
 refine H9 (ι:=(Nat->Nat)×(Nat->Nat)) (P:=fun x=>(∀i,i+1<k->x.1 i<x.1 (i+1))/\(∀j,j+1<k->x.2 j<x.2 (j+1))/\(∀i,i<k->x.1 i<m)/\(∀j,j<k->x.2 j<n)) (f:=fun x=>(dt k (fun i j=>F (x.1 i) (x.2 j))).natAbs) (fun e he=>?_) (fun x hx=>?_)
 ·refine(sB om e).2 ?_
  rw[<-eF];exact lr.of om (fun r' c' h1 h2 h3 h4=>Int.ofNat_dvd_left.2 (he (r',c') ⟨h1,h2,h3,h4⟩))
 ·have:=one x.1 x.2 hx.1 hx.2.1 hx.2.2.1 hx.2.2.2
  rwa [Nat.mul_comm (Dv g m n (k+2))]at this
theorem PW{g:List (List Int)}{m n k:Nat}(hk:k<=3):Dv g m n k∣Dv g m n (k+1):=by
 refine(sB om _).2 ?_;have hD:lr (fun i j=>el g i j) m n k (Dv g m n k:Int):=(sB om _).1 (Nat.dvd_refl _);obtain⟨F,eF⟩:∃F:Nat->Nat->Int,F=fun(i j:Nat)=>el g (i:Int) (j:Int):=⟨_,rfl⟩
 rw[<-eF]at hD ⊢;generalize (Dv g m n k:Int)=D at *;intro r c hr hc;have Am:k=0\/k=1\/k=2\/k=3:=om
 rcases Am with rfl|rfl|rfl|rfl
 ·have:D∣1:=hD (fun _=>0) (fun _=>0) (fun i hi=>om) (fun i hi=>om)
  exact Int.dvd_trans this ⟨_,(Int.one_mul _).symm⟩
 ·have Tf:∀i j,i<m->j<n->D∣F i j:=fun i j hi hj=>hD (fun _=>i) (fun _=>j) (fun _ _=>hi) (fun _ _=>hj)
  have a0:=hr 0 om;have a1:=hr 1 om;have b0:=hc 0 om;have b1:=hc 1 om;exact Int.dvd_sub (Int.dvd_mul_of_dvd_left (Tf _ _ a0 b0)) (Int.dvd_mul_of_dvd_left (Tf _ _ a0 b1))
 ·have a0:=hr 0 om
  have a1:=hr 1 om;have a2:=hr 2 om;have b0:=hc 0 om;have b1:=hc 1 om;have b2:=hc 2 om;exact Int.dvd_add (Int.dvd_sub (Int.dvd_mul_of_dvd_right (Cn hD a1 a2 b1 b2)) (Int.dvd_mul_of_dvd_right (Cn hD a1 a2 b0 b2))) (Int.dvd_mul_of_dvd_right (Cn hD a1 a2 b0 b1))
 ·have a0:=hr 0 om
  have a1:=hr 1 om;have a2:=hr 2 om;have a3:=hr 3 om;have b0:=hc 0 om;have b1:=hc 1 om;have b2:=hc 2 om;have b3:=hc 3 om;exact Int.dvd_sub (Int.dvd_add (Int.dvd_sub (Int.dvd_mul_of_dvd_right (Rw hD a1 a2 a3 b1 b2 b3)) (Int.dvd_mul_of_dvd_right (Rw hD a1 a2 a3 b0 b2 b3))) (Int.dvd_mul_of_dvd_right (Rw hD a1 a2 a3 b0 b1 b3))) (Int.dvd_mul_of_dvd_right (Rw hD a1 a2 a3 b0 b1 b2))
end Go.Proofs.YtdpbiegfljmhmaaGreat.Ext
