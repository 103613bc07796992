import Derived.Test.YtdpbiegfljmhmaaDetF
import Derived.Test.YtdpbiegfljmhmaaSmB
import Derived.Test.YtdpbiegfljmhmaaFqC
import Derived.Test.YtdpbiegfljmhmaaDetG
set_option linter.unusedSimpArgs false
set_option linter.unusedVariables false
namespace Go.Proofs.Ytdpbiegfljmhmaa.Ext
theorem CG{s:Nat}(M:Nat->Nat->Int){a b:Nat}(ha:a<s)(hb:b<s)(e:a≠b):dt s (fun x y=>M (sw a b x) y)=- dt s M:=by
 have h4:s<=4\/5<=s:=by omega
 rcases h4 with h4|h4
 rotate_left
 ·obtain⟨t,rfl⟩:∃t,s=t+5:=⟨s-5,by omega⟩
  rfl
 have hs:s=0\/s=1\/s=2\/s=3\/s=4:=by omega
 have ha':a=0\/a=1\/a=2\/a=3:=by omega
 have hb':b=0\/b=1\/b=2\/b=3:=by omega
 rcases hs with rfl|rfl|rfl|rfl|rfl<;>rcases ha' with rfl|rfl|rfl|rfl<;>rcases hb' with rfl|rfl|rfl|rfl<;>first|(exfalso;omega)|(simp only[dt,sw,d4,d3,d2];grind)
theorem yG{s:Nat}(M:Nat->Nat->Int){a b:Nat}(ha:a<s)(hb:b<s)(e:a≠b)(h:∀y,y<s->M a y=M b y):dt s M=0:=by
 have h1:=CG M ha hb e;have h2:dt s (fun x y=>M (sw a b x) y)=dt s M:=dG fun x y hx hy=>by
  unfold sw;by_cases c:x=a
  ·rw[if_pos c,c];exact(h y hy).symm
  ·rw[if_neg c]
   by_cases d:x=b
   ·rw[if_pos d,d];exact h y hy
   ·rw[if_neg d]
 omega
theorem Bb{s:Nat}(M:Nat->Nat->Int){a:Nat}(ha:a<s)(u v:Nat->Int)(p q:Int):dt s (fun x y=>if x=a then p*u y+q*v y else M x y)=p*dt s (fun x y=>if x=a then u y else M x y)+q*dt s (fun x y=>if x=a then v y else M x y):=by
 have h4:s<=4\/5<=s:=by omega
 rcases h4 with h4|h4
 rotate_left
 ·obtain⟨t,rfl⟩:∃t,s=t+5:=⟨s-5,by omega⟩
  simp[dt]
 have hs:s=0\/s=1\/s=2\/s=3\/s=4:=by omega
 have ha':a=0\/a=1\/a=2\/a=3:=by omega
 rcases hs with rfl|rfl|rfl|rfl|rfl<;>rcases ha' with rfl|rfl|rfl|rfl<;>first|(exfalso;omega)|(simp[dt,d4,d3,d2]<;>grind)
theorem FX{s:Nat}(M:Nat->Nat->Int){a:Nat}(ha:a<s)(c:Nat->Int)(U:Nat->Nat->Int):∀n,dt s (fun x y=>if x=a then aK (fun i=>c i*U i y) n else M x y)=aK (fun i=>c i*dt s (fun x y=>if x=a then U i y else M x y)) n
 |0=>by
  have:=Bb M ha (fun _=>0) (fun _=>0) 0 0;simp only[Int.zero_mul,Int.mul_zero,Int.add_zero]at this;exact this
 |n+1=>by
  have:=Bb M ha (fun y=>aK (fun i=>c i*U i y) n) (U n) 1 (c n);simp only[Int.one_mul]at this;show dt s (fun x y=>if x=a then aK (fun i=>c i*U i y) n+c n*U n y else M x y)=aK (fun i=>c i*dt s (fun x y=>if x=a then U i y else M x y)) n+c n*dt s (fun x y=>if x=a then U n y else M x y);rw[this,FX M ha c U n]
theorem nQ{d:Int}{f:Nat->Int}:∀n,(∀i,i<n->d∣f i)->d∣aK f n
 |0,_=>Int.dvd_zero d
 |n+1,h=>Int.dvd_add (nQ n (fun i hi=>h i (by omega))) (h n (by omega))
def jO(F:Nat->Nat->Int)(m n k:Nat)(d:Int):Prop:=∀r c:Nat->Nat,(∀i,i<k->r i<m)->(∀j,j<k->c j<n)->d∣dt k (fun i j=>F (r i) (c j))
theorem jO.T{F:Nat->Nat->Int}{m n k:Nat}{d:Int}(h:jO F m n k d):jO (fun i j=>F j i) n m k d:=fun r c hr hc=>by
 have:=h c r hc hr;rw[<-Di]at this;exact this
theorem jO.rows{F G:Nat->Nat->Int}{m m' n k:Nat}{d:Int}(h:jO F m n k d)(e:∀i,i<m'->∃y:Nat->Int,∀j,j<n->G i j=aK (fun t=>y t*F t j) m):jO G m' n k d:=by
 have key:∀t,t<=k->∀r c:Nat->Nat,(∀i,i<k->i<k-t->r i<m)->(∀i,i<k->k-t<=i->r i<m')->(∀j,j<k->c j<n)->d∣dt k (fun i j=>if i<k-t then F (r i) (c j)else G (r i) (c j)):=by
  intro t
  induction t with
  |zero=>
   intro _ r c h1 h2 hc;rw[dG (N:=fun i j=>F (r i) (c j)) (fun i j hi hj=>by rw[if_pos (by omega)])];exact h r c (fun i hi=>h1 i hi (by omega)) hc
  |succ t ih=>
   intro ht r c h1 h2 hc;obtain⟨a,ea⟩:∃a,a=k-(t+1):=⟨_,rfl⟩;obtain⟨y,hy⟩:=e (r a) (h2 a (by omega) (by omega));rw[dG (N:=fun i j=>if i=a then aK (fun u=>y u*F u (c j)) m else(fun i j=>if i<k-(t+1)then F (r i) (c j)else G (r i) (c j)) i j) (fun i j hi hj=>by
    by_cases q:i=a
    ·rw[if_pos q,if_neg (by omega),q];exact hy _ (hc j hj)
    ·rw[if_neg q])]
   rw[FX _ (by omega) y (fun u j=>F u (c j)) m];refine nQ m (fun u hu=>Int.dvd_mul_of_dvd_right ?_);have:=ih (by omega) (fun i=>if i=a then u else r i) c (fun i hi hk=>by
    by_cases q:i=a
    ·simp only[if_pos q];exact hu
    ·simp only[if_neg q];exact h1 i hi (by omega)) (fun i hi hk=>by
    have:i≠a:=by omega
    simp only[if_neg this];exact h2 i hi (by omega)) hc
   rw[dG (N:=fun i j=>if i=a then F u (c j)else(fun i j=>if i<k-(t+1)then F (r i) (c j)else G (r i) (c j)) i j)]at this
   ·exact this
   ·intro i j hi hj
    by_cases q:i=a
    ·simp only[if_pos q];rw[if_pos (by omega)]
    ·simp only[if_neg q]
     by_cases w:i<k-(t+1)
     ·rw[if_pos w,if_pos (by omega)]
     ·rw[if_neg w,if_neg (by omega)]
 intro r c hr hc;have:=key k (Nat.le_refl _) r c (fun i _ hi=>by omega) (fun i hi _=>hr i hi) hc;rw[dG (N:=fun i j=>G (r i) (c j)) (fun i j hi hj=>by rw[if_neg (by omega)])]at this;exact this
theorem jO.cols{F G:Nat->Nat->Int}{m n n' k:Nat}{d:Int}(h:jO F m n k d)(e:∀j,j<n'->∃y:Nat->Int,∀i,i<m->G i j=aK (fun t=>y t*F i t) n):jO G m n' k d:=by
 have:=(h.T.rows (G:=fun i j=>G j i) (m':=n') e).T;exact this
theorem rI{k:Nat}(hk:k<=4):∀(N:Nat) (r:Nat->Nat),4*r 0+3*r 1+2*r 2+r 3<=N->(∀F:Nat->Nat->Int,dt k (fun i j=>F (r i) j)=0)\/∃r':Nat->Nat,(∀i,i+1<k->r' i<r' (i+1))/\(∀m,(∀i,i<k->r i<m)->∀i,i<k->r' i<m)/\∀F:Nat->Nat->Int,(dt k (fun i j=>F (r i) j)).natAbs=(dt k (fun i j=>F (r' i) j)).natAbs:=by
 intro N
 induction N with
 |zero=>
  intro r h;by_cases k2:2<=k
  ·left
   intro F;exact yG _ (a:=0) (b:=1) (by omega) (by omega) (by omega) (fun y hy=>by rw[show r 0=r 1 by omega])
  ·right
   exact⟨r,fun i hi=>by omega,fun m hm=>hm,fun F=>rfl⟩
 |succ N ih=>
  intro r h;by_cases c:∃i,i+1<k/\¬r i<r (i+1)
  ·obtain⟨i,hi,hn⟩:=c
   by_cases e:r i=r (i+1)
   ·left
    intro F;exact yG _ (a:=i) (b:=i+1) (by omega) (by omega) (by omega) (fun y hy=>by rw[e])
   ·have e0:∀x,sw i (i+1) x=if x=i then i+1 else if x=i+1 then i else x:=fun x=>rfl
    have hm:4*r (sw i (i+1) 0)+3*r (sw i (i+1) 1)+2*r (sw i (i+1) 2)+r (sw i (i+1) 3)<=N:=by
     have hi3:i=0\/i=1\/i=2:=by omega
     rcases hi3 with rfl|rfl|rfl<;>simp[sw]at *<;>omega
    have key:∀F:Nat->Nat->Int,(dt k (fun x j=>F (r x) j)).natAbs=(dt k (fun x j=>F (r (sw i (i+1) x)) j)).natAbs:=fun F=>by
     have:dt k (fun x j=>F (r (sw i (i+1) x)) j)=- dt k (fun x j=>F (r x) j):=CG (fun x j=>F (r x) j) (a:=i) (b:=i+1) (show i<k by omega) hi (by omega);omega
    rcases ih (fun x=>r (sw i (i+1) x)) hm with q|⟨r',a1,a2,a3⟩
    ·left
     intro F;have:=key F;rw[q F]at this;omega
    ·right
     refine⟨r',a1,fun m hm=>a2 m (fun x hx=>hm _ (yP (by omega) hi hx)),fun F=>?_⟩;rw[key F];exact a3 F
  ·right
   refine⟨r,fun i hi=>?_,fun m hm=>hm,fun F=>rfl⟩;exact Classical.byContradiction fun q=>c ⟨i,hi,q⟩
theorem BK(n:Nat):∀(k f:Nat) (r:Nat->Nat),(∀i,i+1<k->r i<r (i+1))->(∀i,i<k->r i<n)->(0<k->f<=r 0)->(List.range k).map (fun i=>(r i:Int))∈ch n k f
 |0,f,r,_,_,_=>by simp[ch]
 |k+1,f,r,h1,h2,h3=>by
  have ih:=BK n k (r 0+1) (fun i=>r (i+1)) (fun i hi=>h1 (i+1) (by omega)) (fun i hi=>h2 (i+1) (by omega)) (fun hk=>h1 0 (by omega));have f0:=h3 (by omega);have l0:=h2 0 (by omega);simp only[ch,List.mem_flatMap,List.mem_map];refine⟨r 0,List.mem_range'_1.2 ⟨f0,by omega⟩,_,ih,?_⟩;rw[List.range_succ_eq_map,List.map_cons,List.map_map];rfl
theorem zh(r:Nat->Nat){k i:Nat}(h:i<k):gt ((List.range k).map (fun i=>(r i:Int))) (i:Int)=(r i:Int):=by
 unfold gt;rw[List.getD_eq_getElem?_getD];simp[h]
theorem jO.of{F:Nat->Nat->Int}{m n k:Nat}{d:Int}(hk:k<=4)(h:∀r c:Nat->Nat,(∀i,i+1<k->r i<r (i+1))->(∀j,j+1<k->c j<c (j+1))->(∀i,i<k->r i<m)->(∀j,j<k->c j<n)->d∣dt k (fun i j=>F (r i) (c j))):jO F m n k d:=by
 intro r c hr hc;rcases rI hk _ r (Nat.le_refl _)with q|⟨r',a1,a2,a3⟩
 ·rw[q (fun x j=>F x (c j))];exact Int.dvd_zero d
 ·rcases rI hk _ c (Nat.le_refl _)with q|⟨c',b1,b2,b3⟩
  ·have:=q (fun x j=>F (r j) x)
   rw[Di (fun i j=>F (r i) (c j))]at this;rw[this];exact Int.dvd_zero d
  ·have h0:=h r' c' a1 b1 (a2 m hr) (b2 n hc)
   have e1:=a3 (fun x j=>F x (c j));have e2:=b3 (fun x j=>F (r' j) x);rw[Di (fun i j=>F (r' i) (c j)),Di (fun i j=>F (r' i) (c' j))]at e2;rw[<-Int.dvd_natAbs]at h0 ⊢;rw[e1,e2];exact h0
theorem kz{g:List (List Int)}{m n k:Nat}(hk:k<=4)(d:Nat):d∣Dv g m n k↔jO (fun i j=>el g i j) m n k d:=by
 rw[CP g m n k d];constructor
 ·intro h
  refine jO.of hk (fun r c h1 h2 hr hc=>?_);have:=h _ (BK m k 0 r h1 hr (fun _=>Nat.zero_le _)) _ (BK n k 0 c h2 hc (fun _=>Nat.zero_le _));unfold wZ at this;rw[dG (N:=fun i j=>el g (r i) (c j)) (fun i j hi hj=>by rw[zh r hi,zh c hj])]at this;exact Int.ofNat_dvd_left.2 this
 ·intro h r hr c hc
  have l1:=xh m k 0 r hr;have l2:=xh n k 0 c hc;have i1:=Jt m k 0 r hr;have i2:=Jt n k 0 c hc;have mem:∀(l:List Int) (i:Nat),i<l.length->gt l (i:Int)∈l:=fun l i hi=>by
   unfold gt;rw[List.getD_eq_getElem?_getD,show((i:Int)).toNat=i from rfl,List.getElem?_eq_getElem hi];exact List.getElem_mem hi
  have:=h (fun i=>(gt r (i:Int)).toNat) (fun j=>(gt c (j:Int)).toNat) (fun i hi=>by have:=i1 _ (mem r i (by omega));omega) (fun j hj=>by have:=i2 _ (mem c j (by omega));omega);rw[dG (N:=fun i j=>el g (gt r (i:Int)) (gt c (j:Int))) (fun i j hi hj=>by
   have h1:=i1 _ (mem r i (by omega));have h2:=i2 _ (mem c j (by omega));simp only;rw[Int.toNat_of_nonneg h1.1,Int.toNat_of_nonneg h2.1])]at this
  exact Int.ofNat_dvd_left.1 this
theorem Am{f g:Nat->Int}{k:Nat}:∀(n:Nat),k<n->(∀j,j<n->j≠k->f j=g j)->aK f n=aK g n+(f k-g k)
 |0,h,_=>by omega
 |n+1,h,e=>by
  show aK f n+f n=aK g n+g n+(f k-g k);by_cases c:k=n
  ·subst c
   rw[aG k (fun j hj=>e j (by omega) (by omega))];omega
  ·rw[Am n (by omega) (fun j hj ne=>e j (by omega) ne),e n (by omega) (by omega)]
   omega
theorem kD(x:List Int){k:Nat}(v:Int)(hk:k<x.length)(j:Nat):gt (x.set k v) (j:Int)=if j=k then v else gt x (j:Int):=by
 unfold gt;rw[List.getD_eq_getElem?_getD,List.getD_eq_getElem?_getD,show((j:Int)).toNat=j from rfl,List.getElem?_set];by_cases c:k=j
 ·subst c;simp[hk]
 ·rw[if_neg c,if_neg (fun q=>c q.symm)]
theorem vi{x y:List Int}{n:Nat}(hx:x.length=n)(hy:y.length=n)(h:∀j:Nat,j<n->gt x (j:Int)=gt y (j:Int)):x=y:=by
 apply List.ext_getElem?;intro j;by_cases c:j<n
 ·have:=h j c
  unfold gt at this;rw[List.getD_eq_getElem?_getD,List.getD_eq_getElem?_getD,show((j:Int)).toNat=j from rfl,List.getElem?_eq_getElem (by omega),List.getElem?_eq_getElem (by omega)]at this;rw[List.getElem?_eq_getElem (by omega),List.getElem?_eq_getElem (by omega)];exact congrArg some this
 ·rw[List.getElem?_eq_none (by omega),List.getElem?_eq_none (by omega)]
def Mk(A:Nat->Nat->Int):Nat->Int
 |0=>1
 |k+1=>Mk A k*A k k
structure vG(A:Nat->Nat->Int)(R:Nat->Int)(size:Int)(n:Nat):Prop where
 up:∀i j,i<n->j<i->A i j=0
 pos:∀i,i<n->0<A i i
 szp:0<size
 szd:Mk A n∣size
 rd:∀k,k<n->Mk A n∣R k
theorem vG.mk_dvd{A:Nat->Nat->Int}{R:Nat->Int}{size:Int}{n:Nat}(t:vG A R size n){k:Nat}:∀d,k+d<=n->Mk A k∣Mk A (k+d)
 |0,_=>Int.dvd_refl _
 |d+1,h=>Int.dvd_trans (t.mk_dvd d (by omega)) ⟨A (k+d) (k+d),rfl⟩
theorem vG.mk_le{A:Nat->Nat->Int}{R:Nat->Int}{size:Int}{n:Nat}(t:vG A R size n){k:Nat}(h:k<=n):Mk A k∣Mk A n:=by
 have:=t.mk_dvd (k:=k) (n-k) (by omega)
 rwa [show k+(n-k)=n by omega]at this
def fY(A:Nat->Nat->Int)(n i:Nat)(x:List Int):Int:=aK (fun j=>A i j*gt x (j:Int)) n
def kH(A:Nat->Nat->Int)(R:Nat->Int)(size:Int)(n k:Nat)(x:List Int):Int:=(R k-fY A n k x) % size
def il(A:Nat->Nat->Int)(R:Nat->Int)(size:Int)(n k:Nat)(x:List Int)(t:Nat):List Int:=x.set k (kH A R size n k x / A k k+t*(size / A k k))
def fT(A:Nat->Nat->Int)(R:Nat->Int)(size:Int)(n k:Nat)(l:List (List Int)):List (List Int):=l.flatMap (fun x=>(List.range (A k k).toNat).map (il A R size n k x))
def kO(A:Nat->Nat->Int)(R:Nat->Int)(size:Int)(n:Nat):Nat->List (List Int)
 |0=>[List.replicate n 0]
 |d+1=>fT A R size n (n-1-d) (kO A R size n d)
structure xg(A:Nat->Nat->Int)(R:Nat->Int)(size:Int)(n k:Nat)(x:List Int):Prop where
 len:x.length=n
 zero:∀j:Nat,j<k->gt x (j:Int)=0
 rng:∀j:Nat,k<=j->j<n->0<=gt x (j:Int)/\gt x (j:Int)<size
 eqs:∀i,k<=i->i<n->(R i-fY A n i x) % size=0
section
variable{A:Nat->Nat->Int}{R:Nat->Int}{size:Int}{n k:Nat}
theorem yX(x:List Int)(v:Int)(hx:x.length=n)(hk:k<n)(hz:gt x (k:Int)=0)(i:Nat):fY A n i (x.set k v)=fY A n i x+A i k*v:=by
 unfold fY;rw[Am (f:=fun j=>A i j*gt (x.set k v) (j:Int)) (g:=fun j=>A i j*gt x (j:Int)) n hk (fun j hj ne=>by rw[kD x v (by omega),if_neg ne])];show _+(A i k*gt (x.set k v) (k:Int)-A i k*gt x (k:Int))=_;rw[kD x v (by omega),if_pos rfl,hz,Int.mul_zero,Int.sub_zero]
theorem qC(t:vG A R size n)(hk:k<n){x:List Int}(hd:∀j:Nat,j<n->Mk A (k+1)∣gt x (j:Int)):∃q z,kH A R size n k x=A k k*q/\size=A k k*z/\kH A R size n k x / A k k=q/\size / A k k=z/\0<=q/\q<z/\Mk A k∣q/\Mk A k∣z:=by
 have ap:=t.pos k hk;have d1:Mk A (k+1)∣size:=Int.dvd_trans (t.mk_le (by omega)) t.szd;have d2:Mk A (k+1)∣R k-fY A n k x:=Int.dvd_sub (Int.dvd_trans (t.mk_le (by omega)) (t.rd k hk)) (nQ n (fun j hj=>Int.dvd_mul_of_dvd_right (hd j hj)));have d3:Mk A (k+1)∣kH A R size n k x:=by
  unfold kH;rw[Int.emod_def];exact Int.dvd_sub d2 (Int.dvd_mul_of_dvd_left d1)
 obtain⟨c1,e1⟩:=d1;obtain⟨c3,e3⟩:=d3;have e1':size=A k k*(Mk A k*c1):=by rw[e1];show Mk A k*A k k*c1=_;rw[Int.mul_comm (Mk A k),Int.mul_assoc]
 have e3':kH A R size n k x=A k k*(Mk A k*c3):=by rw[e3];show Mk A k*A k k*c3=_;rw[Int.mul_comm (Mk A k),Int.mul_assoc]
 have l0:0<=kH A R size n k x:=Int.emod_nonneg _ (by have:=t.szp;omega);have l1:kH A R size n k x<size:=Int.emod_lt_of_pos _ t.szp;refine⟨Mk A k*c3,Mk A k*c1,e3',e1',by rw[e3'];exact Int.mul_ediv_cancel_left _ (by omega),by rw[e1'];exact Int.mul_ediv_cancel_left _ (by omega),?_,?_,⟨c3,rfl⟩,⟨c1,rfl⟩⟩
 ·rw[e3']at l0
  exact Int.nonneg_of_mul_nonneg_right l0 ap
 ·have l1':A k k*(Mk A k*c3)<A k k*(Mk A k*c1):=by rw[<-e3',<-e1'];exact l1
  exact Int.lt_of_mul_lt_mul_left l1' (Int.le_of_lt ap)
theorem IV(t:vG A R size n)(hk:k<n){l:List (List Int)}(h1:∀x,x∈l↔xg A R size n (k+1) x)(h2:∀x,x∈l->∀j:Nat,j<n->Mk A (k+1)∣gt x (j:Int)) :
  (∀x,x∈fT A R size n k l↔xg A R size n k x)/\∀x,x∈fT A R size n k l->∀j:Nat,j<n->Mk A k∣gt x (j:Int):=by
 have ap:=t.pos k hk;have mem:∀y,y∈fT A R size n k l↔∃x,x∈l/\∃c:Nat,(c:Int)<A k k/\il A R size n k x c=y:=fun y=>by
  unfold fT;simp only[List.mem_flatMap,List.mem_map,List.mem_range];constructor
  ·rintro⟨x,hx,c,hc,e⟩;exact⟨x,hx,c,by omega,e⟩
  ·rintro⟨x,hx,c,hc,e⟩;exact⟨x,hx,c,by omega,e⟩
 constructor
 ·intro y
  rw[mem y];constructor
  ·rintro⟨x,hx,c,hc,rfl⟩
   have sx:=(h1 x).1 hx;obtain⟨q,z,e1,e2,e3,e4,q0,qz,_,_⟩:=qC t hk (h2 x hx);have lx:=sx.len;have hz:=sx.zero k (by omega);unfold il;rw[e3,e4];have cz:(c:Int)*z<=(A k k-1)*z:=Int.mul_le_mul_of_nonneg_right (by omega) (by omega);have cz0:0<=(c:Int)*z:=Int.mul_nonneg (by omega) (by omega);rw[Int.sub_mul,Int.one_mul,<-e2]at cz;refine⟨by rw[List.length_set];exact lx,fun j hj=>?_,fun j j0 j1=>?_,fun i i0 i1=>?_⟩
   ·rw[kD x _ (by omega),if_neg (by omega)];exact sx.zero j (by omega)
   ·rw[kD x _ (by omega)]
    by_cases e:j=k
    ·rw[if_pos e];omega
    ·rw[if_neg e];exact sx.rng j (by omega) j1
   ·rw[yX x _ lx hk hz i]
    by_cases e:i=k
    ·subst e
     have e5:kH A R size n i x=(R i-fY A n i x) % size:=rfl;have e6:=Int.emod_add_mul_ediv (R i-fY A n i x) size;rw[<-e5,e1]at e6;have e7:R i-(fY A n i x+A i i*(q+c*z))=size*((R i-fY A n i x) / size)-size*c:=by
      rw[Int.mul_add];have:A i i*(c*z)=size*c:=by rw[e2,Int.mul_assoc,Int.mul_comm z]
      omega
     rw[e7,<-Int.mul_sub];exact Int.mul_emod_right _ _
    ·rw[t.up i k i1 (by omega),Int.zero_mul,Int.add_zero]
     exact sx.eqs i (by omega) i1
  ·intro sy
   have ly:=sy.len;obtain⟨x,ex⟩:∃x,x=y.set k 0:=⟨_,rfl⟩;have lx:x.length=n:=by rw[ex,List.length_set];exact ly
   have gx:∀j:Nat,gt x (j:Int)=if j=k then 0 else gt y (j:Int):=fun j=>by rw[ex,kD y 0 (by omega)]
   have hz:gt x (k:Int)=0:=by rw[gx,if_pos rfl]
   have ey:y=x.set k (gt y (k:Int)):=vi ly (by rw[List.length_set];exact lx) (fun j hj=>by
    rw[kD x _ (by omega),gx];by_cases e:j=k
    ·rw[if_pos e,e]
    ·rw[if_neg e,if_neg e])
   have sumy:∀i,fY A n i y=fY A n i x+A i k*gt y (k:Int):=fun i=>by
    exact(congrArg (fY A n i) ey).trans (yX x (gt y (k:Int)) lx hk hz i)
   have sx:xg A R size n (k+1) x:=by
    refine⟨lx,fun j hj=>?_,fun j j0 j1=>?_,fun i i0 i1=>?_⟩
    ·rw[gx]
     by_cases e:j=k
     ·rw[if_pos e]
     ·rw[if_neg e];exact sy.zero j (by omega)
    ·rw[gx,if_neg (by omega)];exact sy.rng j (by omega) j1
    ·have:=sy.eqs i (by omega) i1
     rw[sumy i,t.up i k i1 (by omega),Int.zero_mul,Int.add_zero]at this;exact this
   have hx:=(h1 x).2 sx;obtain⟨q,z,e1,e2,e3,e4,q0,qz,_,_⟩:=qC t hk (h2 x hx);obtain⟨y0,y1⟩:=sy.rng k (Nat.le_refl k) hk;obtain⟨v,ev⟩:∃v,v=gt y (k:Int):=⟨_,rfl⟩;have heq:=sy.eqs k (Nat.le_refl k) hk;rw[sumy k,<-ev]at heq;rw[<-ev]at y0 y1 ey;obtain⟨c,hc⟩:∃c,v=q+c*z:=by
    have e6:=Int.emod_add_mul_ediv (R k-fY A n k x) size;have e5:kH A R size n k x=(R k-fY A n k x) % size:=rfl;rw[<-e5,e1]at e6;obtain⟨w,hw⟩:=Int.dvd_of_emod_eq_zero heq;refine⟨(R k-fY A n k x) / size-w,Int.eq_of_mul_eq_mul_left (show A k k≠0 by omega) ?_⟩;rw[Int.mul_add,Int.sub_mul,Int.mul_sub];have r1:A k k*((R k-fY A n k x) / size*z)=size*((R k-fY A n k x) / size):=by
     rw[Int.mul_comm ((R k-fY A n k x) / size),<-Int.mul_assoc,<-e2]
    have r2:A k k*(w*z)=size*w:=by rw[Int.mul_comm w,<-Int.mul_assoc,<-e2]
    rw[r1,r2];omega
   have c0:0<=c:=by
    refine Classical.byContradiction fun w=>?_
    have:=Int.mul_le_mul_of_nonneg_right (show c<=-1 by omega) (show 0<=z by omega);omega
   have c1:c<A k k:=by
    refine Classical.byContradiction fun w=>?_
    have:=Int.mul_le_mul_of_nonneg_right (show A k k<=c by omega) (show 0<=z by omega);rw[<-e2]at this;omega
   refine⟨x,hx,c.toNat,by omega,?_⟩;unfold il;rw[e3,e4,show((c.toNat:Nat):Int)=c by omega,<-hc];exact ey.symm
 ·intro y hy j hj
  obtain⟨x,hx,c,hc,rfl⟩:=(mem y).1 hy;obtain⟨q,z,e1,e2,e3,e4,q0,qz,dq,dz⟩:=qC t hk (h2 x hx);unfold il;rw[e3,e4,kD x _ (by have:=((h1 x).1 hx).len;omega)];by_cases e:j=k
  ·rw[if_pos e]
   exact Int.dvd_add dq (Int.dvd_mul_of_dvd_right dz)
  ·rw[if_neg e]
   exact Int.dvd_trans ⟨A k k,rfl⟩ (h2 x hx j hj)
theorem BN(t:vG A R size n)(hk:k<n):∀{l:List (List Int)},(∀x,x∈l->xg A R size n (k+1) x)->(∀x,x∈l->∀j:Nat,j<n->Mk A (k+1)∣gt x (j:Int))->l.Nodup->(fT A R size n k l).Nodup/\((fT A R size n k l).length:Int)=l.length*A k k:=by
 have ap:=t.pos k hk;intro l
 induction l with
 |nil=>intro _ _ _;exact⟨List.nodup_nil,by simp[fT]⟩
 |cons x l ih=>
  intro h1 h2 hn;obtain⟨i1,i2⟩:=ih (fun y hy=>h1 y (List.mem_cons_of_mem _ hy)) (fun y hy=>h2 y (List.mem_cons_of_mem _ hy)) (List.nodup_cons.1 hn).2;have sx:=h1 x (List.mem_cons_self ..);obtain⟨q,z,e1,e2,e3,e4,q0,qz,_,_⟩:=qC t hk (h2 x (List.mem_cons_self ..));have back:∀y,xg A R size n (k+1) y->∀v:Int,(y.set k v).set k 0=y:=fun y sy v=>by
   rw[List.set_set];exact vi (by rw[List.length_set];exact sy.len) sy.len (fun j hj=>by
    rw[kD y 0 (by have:=sy.len;omega)];by_cases e:j=k
    ·rw[if_pos e,e,sy.zero k (by omega)]
    ·rw[if_neg e])
  have hd:fT A R size n k (x :: l)=(List.range (A k k).toNat).map (il A R size n k x)++fT A R size n k l:=by unfold fT;rw[List.flatMap_cons]
  rw[hd];constructor
  ·rw[List.nodup_append]
   refine⟨?_,i1,fun a ha b hb e=>?_⟩
   ·refine List.Pairwise.map _ (fun c d ne e=>?_) List.nodup_range
    apply ne;have g1:gt (il A R size n k x c) (k:Int)=gt (il A R size n k x d) (k:Int):=by rw[e]
    unfold il at g1;rw[kD x _ (by have:=sx.len;omega),kD x _ (by have:=sx.len;omega),if_pos rfl,if_pos rfl,e3,e4]at g1;have:(c:Int)*z=d*z:=by omega
    have:=Int.eq_of_mul_eq_mul_right (show z≠0 by omega) this;omega
   ·obtain⟨c,_,rfl⟩:=List.mem_map.1 ha
    unfold fT at hb;obtain⟨y,hy,hb⟩:=List.mem_flatMap.1 hb;obtain⟨d,_,rfl⟩:=List.mem_map.1 hb;have:=congrArg (fun w=>w.set k 0) e;simp only[il]at this;rw[back x sx,back y (h1 y (List.mem_cons_of_mem _ hy))]at this;exact(List.nodup_cons.1 hn).1 (this ▸ hy)
  ·rw[List.length_append,List.length_map,List.length_range,List.length_cons]
   push_cast
   rw[i2,Int.add_mul,Int.one_mul,Int.toNat_of_nonneg (by omega)];omega
theorem qL(t:vG A R size n):∀d,d<=n->(∀x,x∈kO A R size n d↔xg A R size n (n-d) x)/\(∀x,x∈kO A R size n d->∀j:Nat,j<n->Mk A (n-d)∣gt x (j:Int))/\(kO A R size n d).Nodup/\((kO A R size n d).length:Int)*Mk A (n-d)=Mk A n
 |0,_=>by
  have gz:∀j:Nat,gt (List.replicate n (0:Int)) (j:Int)=0:=fun j=>by
   unfold gt;rw[List.getD_eq_getElem?_getD,show((j:Int)).toNat=j from rfl,List.getElem?_replicate];split<;>rfl
  refine⟨fun x=>?_,fun x hx j hj=>?_,by simp[kO],by simp[kO]⟩
  ·show x∈[List.replicate n 0]↔_
   rw[List.mem_singleton];constructor
   ·rintro rfl
    exact⟨List.length_replicate,fun j _=>gz j,fun j j0 j1=>by omega,fun i i0 i1=>by omega⟩
   ·intro s
    exact vi s.len List.length_replicate (fun j hj=>by rw[gz,s.zero j (by omega)])
  ·rw[List.mem_singleton.1 (show x∈[List.replicate n 0]from hx),gz]
   exact Int.dvd_zero _
 |d+1,h=>by
  obtain⟨i1,i2,i3,i4⟩:=qL t d (by omega);have e:n-d=n-1-d+1:=by omega
  rw[e]at i1 i2 i4;obtain⟨a1,a2⟩:=IV t (k:=n-1-d) (by omega) i1 i2;obtain⟨b1,b2⟩:=BN t (k:=n-1-d) (by omega) (fun x hx=>(i1 x).1 hx) i2 i3;have e2:n-(d+1)=n-1-d:=by omega
  rw[e2];refine⟨a1,a2,b1,?_⟩;show((fT A R size n (n-1-d) (kO A R size n d)).length:Int)*Mk A (n-1-d)=_;rw[b2,<-i4];show _=(kO A R size n d).length*(Mk A (n-1-d)*A (n-1-d) (n-1-d));rw[Int.mul_assoc,Int.mul_comm (A _ _)]
end
end Go.Proofs.Ytdpbiegfljmhmaa.Ext
namespace Go.Proofs.Ytdpbiegfljmhmaa
open Go.Sim
set_option maxRecDepth 100000
structure oP(B:List Fc)(i:Nat)(W:Int):Prop where
 pos:0<W
 le:W<=((60 ^ i:Nat):Int)
 dvd:∀j:Nat,j<i->(gt B (j:Int)).d∣W
theorem oP.start(B:List Fc):oP B 0 1:=⟨by decide,by decide,fun j hj=>by omega⟩
theorem oP.step{B:List Fc}{i:Nat}{W d:Int}(w:oP B i W)(ed:d=(gt B (i:Int)).d)(d1:1<=d)(d60:d<=60):oP B (i+1) (W*(d / (Int.gcd W d:Int))):=by
 have hp:=w.pos;have g0:0<Int.gcd W d:=Int.gcd_pos_of_ne_zero_left d (by omega);have gd:(Int.gcd W d:Int)∣d:=Int.gcd_dvd_right W d;have gw:(Int.gcd W d:Int)∣W:=Int.gcd_dvd_left W d;obtain⟨c,hc⟩:=gd;obtain⟨v,hv⟩:=gw;obtain⟨G,eG⟩:∃s:Int,s=(Int.gcd W d:Int):=⟨_,rfl⟩;rw[<-eG]at hc hv ⊢;have G0:0<G:=by omega
 have eq:d / G=c:=by rw[hc];exact Int.mul_ediv_cancel_left c (by omega)
 rw[eq];have c0:0<c:=by
  by_cases q:0<c
  ·exact q
  ·have:=Int.mul_le_mul_of_nonneg_left (show c<=0 by omega) (Int.le_of_lt G0)
   rw[Int.mul_zero]at this;omega
 have cd:c<=d:=by
  rw[hc];have:=Int.mul_le_mul_of_nonneg_right (show 1<=G by omega) (Int.le_of_lt c0);rw[Int.one_mul]at this;exact this
 refine⟨Int.mul_pos hp c0,?_,fun j hj=>?_⟩
 ·have h1:W*c<=((60 ^ i:Nat):Int)*60:=Int.mul_le_mul w.le (by omega) (Int.le_of_lt c0) (Int.natCast_nonneg _)
  rw[Nat.pow_succ];omega
 ·by_cases e:j=i
  ·rw[e,<-ed]
   exact⟨v,by rw[hc,hv,Int.mul_assoc,Int.mul_assoc,Int.mul_comm v c]⟩
  ·exact Int.dvd_mul_of_dvd_left (w.dvd j (by omega))
def vA(B:List Fc)(W:Int)(k:Nat):List Int:=gn (fun i=>(gt B (i:Int)).n*(W / (gt B (i:Int)).d)) k
theorem Jc{B:List Fc}{W:Int}{k i:Nat}(h:i<k):gt (vA B W k) (i:Int)=(gt B (i:Int)).n*(W / (gt B (i:Int)).d):=cO _ h
theorem oP.part{B:List Fc}{k:Nat}{W:Int}(w:oP B k W)(ht:∀i:Int,0<=i->i<k->bQ (gt B i)/\(gt B i).d<=60){i:Nat}(hi:i<k):gS (gt B (i:Int)).n (gt B (i:Int)).d (rq ((gt B (i:Int)).n*(W / (gt B (i:Int)).d)) W)/\0<=(gt B (i:Int)).n*(W / (gt B (i:Int)).d)/\(gt B (i:Int)).n*(W / (gt B (i:Int)).d)<W/\(gt B (i:Int)).n*(W / (gt B (i:Int)).d)<=W:=by
 obtain⟨⟨ok,n0,n1⟩,_⟩:=ht i (by omega) (by omega);obtain⟨c,hc⟩:=w.dvd i hi;obtain⟨f,ef⟩:∃f,f=gt B (i:Int):=⟨_,rfl⟩;rw[<-ef]at ok n0 n1 hc ⊢;have f1:=ok.is.den;have wp:=w.pos;have ec:W / f.d=c:=by rw[hc];exact Int.mul_ediv_cancel_left c (by omega)
 rw[ec];have c0:0<c:=by
  by_cases q:0<c
  ·exact q
  ·have:=Int.mul_le_mul_of_nonneg_left (show c<=0 by omega) (show 0<=f.d by omega)
   rw[Int.mul_zero]at this;omega
 have h1:f.n*c<f.d*c:=Int.mul_lt_mul_of_pos_right n1 c0;refine⟨?_,Int.mul_nonneg n0 (by omega),by omega,by omega⟩;have:=ok.is;rw[hc,yx (by omega)];exact this
namespace Ext
structure I2(A:Nat->Nat->Int)(m n r:Nat)(p:Nat->Nat):Prop where
 rm:r<=m
 lt:∀i,i<r->p i<n
 inc:∀i j,i<j->j<r->p i<p j
 zero:∀i j,i<r->j<p i->A i j=0
 ne:∀i,i<r->A i (p i)≠0
 low:∀i j,r<=i->i<m->j<n->A i j=0
theorem pY{k:Nat}{r:Nat->Nat}(h:∀i,i+1<k->r i<r (i+1)):∀i,i<k->i<=r i
 |0,_=>Nat.zero_le _
 |i+1,hi=>by have:=pY h i (by omega);have:=h i hi;omega
theorem CT{s:Nat}(M:Nat->Nat->Int){a:Nat}(ha:a<s)(h:∀j,j<s->M a j=0):dt s M=0:=by
 have:=Bb M ha (fun _=>0) (fun _=>0) 0 0;simp only[Int.zero_mul,Int.add_zero]at this;rw[dG (N:=M) (fun x y hx hy=>by
  by_cases c:x=a
  ·rw[if_pos c,c,h y hy]
  ·rw[if_neg c])]at this
 exact this
theorem I2.over{A:Nat->Nat->Int}{m n r:Nat}{p:Nat->Nat}(e:I2 A m n r p){k:Nat}(hk:k<=4)(h:r<k):jO A m n k 0:=by
 refine jO.of hk (fun r' c h1 h2 hr hc=>?_);have:=pY h1 (k-1) (by omega);rw[CT _ (a:=k-1) (by omega) (fun j hj=>e.low (r' (k-1)) (c j) (by omega) (hr (k-1) (by omega)) (hc j hj))];exact Int.dvd_refl 0
def kW(f:Nat->Int):Nat->Int
 |0=>1
 |n+1=>kW f n*f n
theorem Ka{s:Nat}(hs:s<=4)(M:Nat->Nat->Int)(h:∀i j,i<s->j<i->M i j=0):dt s M=kW (fun i=>M i i) s:=by
 have e:s=0\/s=1\/s=2\/s=3\/s=4:=by omega
 rcases e with rfl|rfl|rfl|rfl|rfl
 ·rfl
 ·simp[dt,kW]
 ·have a:=h 1 0 (by omega) (by omega)
  simp[dt,kW,d2,a]
 ·have a:=h 1 0 (by omega) (by omega)
  have b:=h 2 0 (by omega) (by omega);have c:=h 2 1 (by omega) (by omega);simp[dt,kW,d3,d2,a,b,c];grind
 ·have a:=h 1 0 (by omega) (by omega)
  have b:=h 2 0 (by omega) (by omega);have c:=h 2 1 (by omega) (by omega);have d:=h 3 0 (by omega) (by omega);have e:=h 3 1 (by omega) (by omega);have f:=h 3 2 (by omega) (by omega);simp[dt,kW,d4,d3,d2,a,b,c,d,e,f];grind
theorem zw{f:Nat->Int}:∀n,(∀i,i<n->f i≠0)->kW f n≠0
 |0,_=>by show(1:Int)≠0;decide
 |n+1,h=>Int.mul_ne_zero (zw n (fun i hi=>h i (by omega))) (h n (by omega))
theorem I2.minor{A:Nat->Nat->Int}{m n r:Nat}{p:Nat->Nat}(e:I2 A m n r p){k:Nat}(hk:k<=4)(h:k<=r):dt k (fun i j=>A i (p j))=kW (fun i=>A i (p i)) k:=
 Ka hk _ (fun i j hi hj=>e.zero i _ (by omega) (e.inc j i hj (by omega)))
theorem I2.under{A:Nat->Nat->Int}{m n r:Nat}{p:Nat->Nat}(e:I2 A m n r p){k:Nat}(hk:k<=4)(h:k<=r):¬jO A m n k 0:=fun q=>by
 have h1:=q (fun i=>i) p (fun i hi=>by have:=e.rm;omega) (fun j hj=>e.lt j (by omega));rw[e.minor hk h]at h1;exact zw k (fun i hi=>e.ne i (by omega)) (Int.zero_dvd.1 h1)
theorem I2.full{A:Nat->Nat->Int}{m n:Nat}{p:Nat->Nat}(e:I2 A m n n p)(hn:n<=4)(d:Nat):jO A m n n (d:Int)↔d∣(kW (fun i=>A i (p i)) n).natAbs:=by
 constructor
 ·intro q
  have h1:=q (fun i=>i) p (fun i hi=>by have:=e.rm;omega) (fun j hj=>e.lt j hj);rw[e.minor hn (Nat.le_refl _)]at h1;exact Int.ofNat_dvd_left.1 h1
 ·intro q
  have grow_id:∀c:Nat->Nat,(∀j,j+1<n->c j<c (j+1))->(∀j,j<n->c j<n)->∀j,j<n->c j=j:=fun c h2 hc j hj=>by
   have h1:=pY h2 j hj;have up:∀t,j+t<n->c j+t<=c (j+t):=by
    intro t
    induction t with
    |zero=>intro _;exact Nat.le_refl _
    |succ t ih=>intro ht;have:=ih (by omega);have:=h2 (j+t) (by omega);rw[show j+(t+1)=j+t+1 by omega];omega
   have h3:=up (n-1-j) (by omega);have h4:=hc (j+(n-1-j)) (by omega);omega
  have pid:=grow_id p (fun j hj=>e.inc j (j+1) (by omega) hj) (fun j hj=>e.lt j hj);refine jO.of hn (fun r c h1 h2 hr hc=>?_);have cid:=grow_id c h2 hc;by_cases lo:∀i,i<n->r i<n
  ·have rid:=grow_id r h1 lo
   rw[dG (N:=fun i j=>A i (p j)) (fun i j hi hj=>by rw[rid i hi,cid j hj,pid j hj]),e.minor hn (Nat.le_refl _)];exact Int.ofNat_dvd_left.2 q
  ·have:∃i,i<n/\n<=r i:=Classical.byContradiction fun w=>lo fun i hi=>Classical.byContradiction fun v=>w ⟨i,hi,by omega⟩
   obtain⟨a,ha,hra⟩:=this;rw[CT _ ha (fun j hj=>e.low (r a) (c j) hra (hr a ha) (hc j hj))];exact Int.dvd_zero _
end Ext
theorem bA.ech{g:List (List Int)}{m n r s:Nat}{A:Nat->Ext.aJ}(a:bA g m n r s A):Ext.I2 A m n r (fun i=>Ext.aj (n+m) (A i)):=by
 have hs:=a.sum;refine⟨by omega,a.lo,fun i j hi hj=>a.hnf.inc i j hi (by omega),fun i j hi hj=>Ext.aW hj,fun i hi=>?_,fun i j h1 h2 h3=>Ext.aW (w:=n+m) (by have:=a.hi i h1 h2;omega)⟩;have:=a.hnf.pos i (by omega);omega
theorem bA.minors{g:List (List Int)}{m n r s:Nat}{A:Nat->Ext.aJ}(a:bA g m n r s A){k:Nat}(d:Int):Ext.jO (fun i j=>Ext.el g i j) m n k d↔Ext.jO A m n k d:=by
 have ej:∀(i j:Nat),j<n->fD g n i j=Ext.el g i j:=fun i j hj=>by unfold fD;rw[if_pos hj];rfl
 constructor
 ·intro h
  refine h.rows (fun i hi=>?_);obtain⟨y,hy⟩:=a.lat.le i hi;exact⟨y,fun j hj=>by
   rw[hy j (by omega)];exact Ext.aG m (fun t ht=>by rw[ej t j hj])⟩
 ·intro h
  refine h.rows (fun i hi=>?_);obtain⟨y,hy⟩:=a.lat.ge i hi;exact⟨y,fun j hj=>by rw[<-ej i j hj];exact hy j (by omega)⟩
theorem bA.rank{g:List (List Int)}{m n r s:Nat}{A:Nat->Ext.aJ}(hM:kT g m n)(a:bA g m n r s A):kv g m n r:=by
 have e:=a.ech;have hs:=a.sum;have m4:=hM.m4;have rn:r<=n:=by
  cases r with
  |zero=>exact Nat.zero_le _
  |succ r=>
   have h1:r<=Ext.aj (n+m) (A r):=Ext.pY (k:=r+1) (r:=fun i=>Ext.aj (n+m) (A i)) (fun i hi=>e.inc i (i+1) (by omega) hi) r (by omega);have h2:Ext.aj (n+m) (A r)<n:=e.lt r (by omega);omega
 have z:∀k,k<=4->(Ext.Dv g m n k=0↔Ext.jO A m n k 0):=fun k hk=>by
  rw[<-a.minors (k:=k) 0];have:=Ext.kz (g:=g) (m:=m) (n:=n) hk 0;rw[Nat.zero_dvd]at this;exact this
 refine⟨by omega,rn,fun k hk=>?_,?_⟩
 ·rw[Ne,z (k+1) (by omega)]
  exact e.under (by omega) (by omega)
 ·by_cases c:r=m
  ·exact .inl c
  ·right;right
   rw[z (r+1) (by omega)];exact e.over (by omega) (by omega)
theorem jx(f:Nat->Nat->Int)(m:Nat):∀n,Ext.aK (fun i=>Ext.aK (fun j=>f i j) m) n=Ext.aK (fun j=>Ext.aK (fun i=>f i j) n) m
 |0=>by
  show(0:Int)=Ext.aK (fun j=>0) m;rw[Ext.oz]
 |n+1=>by
  show Ext.aK (fun i=>Ext.aK (fun j=>f i j) m) n+Ext.aK (fun j=>f n j) m=Ext.aK (fun j=>Ext.aK (fun i=>f i j) n+f n j) m;rw[jx f m n,Ext.mW]
theorem fQ(c:Int)(f:Nat->Int)(n:Nat):Ext.aK (fun k=>f k*c) n=Ext.aK f n*c:=by
 rw[Int.mul_comm,<-Ext.hH];exact Ext.aG n (fun k _=>Int.mul_comm _ _)
theorem BO{g:List (List Int)}{n i j:Nat}(h:j<n):fD g n i j=Ext.el g i j:=by unfold fD;rw[if_pos h];rfl
theorem AT{g:List (List Int)}{n i j:Nat}:fD g n i (n+j)=if j=i then 1 else 0:=by
 unfold fD;rw[if_neg (by omega)];by_cases c:j=i
 ·rw[if_pos c,if_pos (by omega)]
 ·rw[if_neg c,if_neg (by omega)]
theorem vS{g:List (List Int)}{n m:Nat}{y:Nat->Int}{j:Nat}(hj:j<m):Ext.aK (fun i=>y i*fD g n i (n+j)) m=y j:=by
 rw[Ext.fI m hj (fun k _ ne=>by rw[AT,if_neg (by omega),Int.mul_zero])];simp only[AT,if_true,Int.mul_one]
theorem bA.tail{g:List (List Int)}{m n r s:Nat}{A:Nat->Ext.aJ}(a:bA g m n r s A){i:Nat}(hi:i<m){j:Nat}(hj:j<n):A i j=Ext.aK (fun t=>A i (n+t)*Ext.el g t j) m:=by
 obtain⟨y,hy⟩:=a.lat.le i hi;have ht:∀t,t<m->A i (n+t)=y t:=fun t ht=>by rw[hy (n+t) (by omega),vS ht]
 rw[hy j (by omega)];exact Ext.aG m (fun t h=>by rw[ht t h,BO hj])
def Aj(g:List (List Int))(m n:Nat)(u:Nat->Int):Prop:=∀j,j<n->Ext.aK (fun i=>u i*Ext.el g i j) m=0
theorem bA.rel{g:List (List Int)}{m n r s:Nat}{A:Nat->Ext.aJ}(a:bA g m n r s A){i:Nat}(hi:i<s):Aj g m n (fun j=>A (r+i) (n+j)):=fun j hj=>by
 have hs:=a.sum;rw[<-a.tail (i:=r+i) (by omega) hj];exact Ext.aW (w:=n+m) (by have:=a.hi (r+i) (by omega) (by omega);omega)
theorem bA.rels{g:List (List Int)}{m n r s:Nat}{A:Nat->Ext.aJ}(a:bA g m n r s A){u:Nat->Int}(hu:Aj g m n u):∃y:Nat->Int,∀j,j<m->u j=Ext.aK (fun i=>y i*A (r+i) (n+j)) s:=by
 have hs:=a.sum;have hv:Ext.Sp (n+m) m A (fun c=>Ext.aK (fun i=>u i*fD g n i c) m):=Ext.Sp.le a.lat.ge ⟨u,fun j hj=>rfl⟩;have:=Ext.Sp.rest hs ⟨fun i hi=>a.hnf.lt i (by omega),fun i hi=>a.hnf.pos i (by omega),fun i j hi hj=>a.hnf.inc i j hi (by omega)⟩ a.lo (fun i c h1 h2 h3=>Ext.aW (w:=n+m) (by have:=a.hi i h1 h2;omega)) hv (fun c hc=>by
  have:=hu c hc;rw[<-this];exact Ext.aG m (fun k _=>by rw[BO hc]))
 obtain⟨y,hy⟩:=this;refine⟨y,fun j hj=>?_⟩;rw[<-hy j hj];exact(vS hj).symm
def prt(B:List Fc)(W:Int)(i:Nat):Int:=(gt B (i:Int)).n*(W / (gt B (i:Int)).d)
def jI(g:List (List Int))(B:List Fc)(m n:Nat):Prop:=∀W,oP B m W->∀u,Aj g m n u->Ext.aK (fun i=>u i*prt B W i) m % W=0
theorem bA.holds{g:List (List Int)}{m n r s:Nat}{A:Nat->Ext.aJ}(a:bA g m n r s A){B:List Fc}(ht:∀i:Int,0<=i->i<m->bQ (gt B i)/\(gt B i).d<=60){W:Int}(w:oP B m W):(∀i,i<s->Ext.aK (fun j=>A (r+i) (n+j)*prt B W j) m % W=0)↔jI g B m n:=by
 constructor
 ·intro h W' w' u hu
  obtain⟨y,hy⟩:=a.rels hu;have wp:=w.pos;have wp':=w'.pos;have h1:W∣Ext.aK (fun i=>u i*prt B W i) m:=by
   have e:Ext.aK (fun i=>u i*prt B W i) m=Ext.aK (fun i=>y i*Ext.aK (fun j=>A (r+i) (n+j)*prt B W j) m) s:=by
    rw[Ext.aG m (g:=fun j=>Ext.aK (fun i=>y i*(A (r+i) (n+j)*prt B W j)) s) (fun j hj=>by
     rw[hy j hj,<-fQ];exact Ext.aG s (fun i _=>by rw[Int.mul_assoc])),<-jx]
    exact Ext.aG s (fun i _=>by rw[Ext.hH])
   rw[e];exact Ext.nQ s (fun i hi=>Int.dvd_mul_of_dvd_right (Int.dvd_of_emod_eq_zero (h i hi)))
  have e2:Ext.aK (fun i=>u i*prt B W' i) m*W=Ext.aK (fun i=>u i*prt B W i) m*W':=by
   rw[<-fQ,<-fQ];refine Ext.aG m (fun i hi=>?_);have q1:=(w.part ht hi).1;have q2:=(w'.part ht hi).1;have q3:=q1.uniq q2;have q4:=(FV (show W≠0 by omega) (show W'≠0 by omega)).1 q3;show u i*prt B W' i*W=u i*prt B W i*W';have q5:prt B W i*W'=prt B W' i*W:=q4;rw[Int.mul_assoc,<-q5,Int.mul_assoc]
  obtain⟨c,hc⟩:=h1;rw[hc]at e2;have:Ext.aK (fun i=>u i*prt B W' i) m=W'*c:=by
   have e3:W*(Ext.aK (fun i=>u i*prt B W' i) m)=W*(W'*c):=by
    rw[Int.mul_comm,e2,Int.mul_assoc,Int.mul_comm c W']
   exact Int.eq_of_mul_eq_mul_left (by omega) e3
  rw[this];exact Int.mul_emod_right W' c
 ·intro h i hi
  exact h W w _ (a.rel hi)
theorem bA.small{g:List (List Int)}{m n r s:Nat}{A:Nat->Ext.aJ}(hM:kT g m n)(a:bA g m n r s A){i:Nat}(hi:i<m)(j:Nat):(A i j).natAbs<=629856:=
 a.hnf.small a.lat (fun i hi j=>by
  unfold fD;split
  ·exact hM.nine _ _
  ·split<;>decide) hM.m4 hi j
theorem oP.few{B:List Fc}{k:Nat}{W:Int}(w:oP B k W)(k4:k<=4):W<=12960000:=by
 have h:=w.le;have:(60:Nat) ^ k<=60 ^ 4:=Nat.pow_le_pow_right (by omega) k4;omega
theorem xR{B:List Fc}{W:Int}{k i:Nat}(h:i<k):gt (vA B W k) (i:Int)=prt B W i:=Jc h
theorem Cr{a p W:Int}(ha:a.natAbs<=629856)(p0:0<=p)(p1:p<W)(hW:W<=12960000):(a*p).natAbs<=8162933760000:=by
 have:=Ext.iy ha (show p.natAbs<=12960000 by omega);omega
theorem oP.ex{B:List Fc}{k:Nat}(ht:∀i:Int,0<=i->i<k->bQ (gt B i)/\(gt B i).d<=60):∃W,oP B k W:=by
 have:∀i,i<=k->∃W,oP B i W:=by
  intro i
  induction i with
  |zero=>intro _;exact⟨1,oP.start B⟩
  |succ i ih=>
   intro hi;obtain⟨W,w⟩:=ih (by omega);obtain⟨⟨ok,_,_⟩,d60⟩:=ht i (by omega) (by omega);exact⟨_,w.step rfl ok.is.den d60⟩
 exact this k (Nat.le_refl k)
theorem bA.lead_id{g:List (List Int)}{m n s:Nat}{A:Nat->Ext.aJ}(a:bA g m n n s A){i:Nat}(hi:i<n):Ext.aj (n+m) (A i)=i:=by
 have e:=a.ech;have h1:i<=Ext.aj (n+m) (A i):=Ext.pY (k:=n) (r:=fun i=>Ext.aj (n+m) (A i)) (fun i hi=>e.inc i (i+1) (by omega) hi) i hi;have up:∀t,i+t<n->Ext.aj (n+m) (A i)+t<=Ext.aj (n+m) (A (i+t)):=by
  intro t
  induction t with
  |zero=>intro _;exact Nat.le_refl _
  |succ t ih=>
   intro ht;have h2:=ih (by omega);have h3:Ext.aj (n+m) (A (i+t))<Ext.aj (n+m) (A (i+(t+1))):=e.inc (i+t) (i+(t+1)) (by omega) (by omega);omega
 have h3:=up (n-1-i) (by omega);have h4:Ext.aj (n+m) (A (i+(n-1-i)))<n:=e.lt (i+(n-1-i)) (by omega);omega
def rowR(A:Nat->Ext.aJ)(B:List Fc)(W:Int)(m n k:Nat):Int:=Ext.aK (fun t=>A k (n+t)*prt B W t) m
def ff(A:Nat->Ext.aJ)(B:List Fc)(W:Int)(m n:Nat)(k:Nat):Int:=rowR A B W m n k % W*Ext.Mk A n
theorem m8{A:Nat->Nat->Int}:∀n,(∀i,i<n->0<A i i)->0<Ext.Mk A n
 |0,_=>by show(0:Int)<1;decide
 |n+1,h=>Int.mul_pos (m8 n (fun i hi=>h i (by omega))) (h n (by omega))
theorem bA.diag{g:List (List Int)}{m n s:Nat}{A:Nat->Ext.aJ}(a:bA g m n n s A){i:Nat}(hi:i<n):0<A i i:=by
 have:=a.hnf.pos i (by have:=a.sum;omega);rw[a.lead_id hi]at this;exact this
theorem bA.tri{g:List (List Int)}{m n s:Nat}{A:Nat->Ext.aJ}(a:bA g m n n s A){B:List Fc}{W:Int}(hW:0<W):Ext.vG A (ff A B W m n) (W*Ext.Mk A n) n:=by
 have dp:∀i,i<n->0<A i i:=fun i hi=>a.diag hi
 refine⟨fun i j hi hj=>Ext.aW (w:=n+m) (by rw[a.lead_id hi];exact hj),dp,Int.mul_pos hW (m8 n dp),Int.dvd_mul_left ..,fun k hk=>Int.dvd_mul_left ..⟩
structure FO(g:List (List Int))(P:Nat->Int)(m n:Nat)(many size:Int)(x:List Int):Prop where
 len:x.length=n
 rng:∀j:Nat,j<n->0<=gt x (j:Int)/\gt x (j:Int)<size
 eqs:∀i,i<m->size∣P i*many-Ext.aK (fun j=>Ext.el g i j*gt x (j:Int)) n
theorem zy(f g:Nat->Int)(n:Nat):Ext.aK (fun k=>f k-g k) n=Ext.aK f n-Ext.aK g n:=by
 have h:=Ext.mW (fun k=>f k-g k) g n;rw[Ext.aG n (g:=f) (fun k _=>by omega)]at h;omega
theorem bA.sols{g:List (List Int)}{m n s:Nat}{A:Nat->Ext.aJ}(a:bA g m n n s A){B:List Fc}{W:Int}(w:oP B m W)(hR:jI g B m n)(x:List Int):Ext.xg A (ff A B W m n) (W*Ext.Mk A n) n 0 x↔FO g (prt B W) m n (Ext.Mk A n) (W*Ext.Mk A n) x:=by
 have hs:=a.sum;obtain⟨many,eM⟩:∃z,z=Ext.Mk A n:=⟨_,rfl⟩;have row:∀k,k<n->((ff A B W m n k-Ext.fY A n k x) % (W*many)=0↔W*many∣rowR A B W m n k*many-Ext.fY A n k x):=fun k hk=>by
  have e:rowR A B W m n k*many-Ext.fY A n k x=(ff A B W m n k-Ext.fY A n k x)+W*many*(rowR A B W m n k / W):=by
   unfold ff;rw[<-eM];have h1:=Int.emod_add_mul_ediv (rowR A B W m n k) W;have h2:rowR A B W m n k*many=(rowR A B W m n k % W+W*(rowR A B W m n k / W))*many:=by rw[h1]
   rw[h2,Int.add_mul,Int.mul_assoc W,Int.mul_comm (rowR A B W m n k / W),<-Int.mul_assoc W];omega
  rw[e];constructor
  ·intro h
   exact Int.dvd_add (Int.dvd_of_emod_eq_zero h) (Int.dvd_mul_right _ _)
  ·intro h
   have:=Int.dvd_sub h (Int.dvd_mul_right (W*many) (rowR A B W m n k / W));rw[Int.add_sub_cancel]at this;exact Int.emod_eq_zero_of_dvd this
 rw[<-eM];constructor
 ·intro sx
  refine⟨sx.len,fun j hj=>sx.rng j (Nat.zero_le j) hj,fun i hi=>?_⟩;obtain⟨c,hc⟩:=a.lat.ge i hi;have hel:∀j,j<n->Ext.el g i j=Ext.aK (fun k=>c k*A k j) m:=fun j hj=>by rw[<-BO hj];exact hc j (by omega)
  have hdl:∀t,t<m->(if t=i then(1:Int)else 0)=Ext.aK (fun k=>c k*A k (n+t)) m:=fun t ht=>by rw[<-AT (g:=g) (n:=n)];exact hc (n+t) (by omega)
  have e1:prt B W i=Ext.aK (fun k=>c k*rowR A B W m n k) m:=by
   have h1:prt B W i=Ext.aK (fun t=>(if t=i then(1:Int)else 0)*prt B W t) m:=by
    rw[Ext.fI m hi (fun k _ ne=>by rw[if_neg ne,Int.zero_mul])];simp
   rw[h1,Ext.aG m (g:=fun t=>Ext.aK (fun k=>c k*(A k (n+t)*prt B W t)) m) (fun t ht=>by
    rw[hdl t ht,<-fQ];exact Ext.aG m (fun k _=>by rw[Int.mul_assoc])),<-jx]
   exact Ext.aG m (fun k _=>by unfold rowR;rw[Ext.hH])
  have e2:Ext.aK (fun j=>Ext.el g i j*gt x (j:Int)) n=Ext.aK (fun k=>c k*Ext.fY A n k x) m:=by
   rw[Ext.aG n (g:=fun j=>Ext.aK (fun k=>c k*(A k j*gt x (j:Int))) m) (fun j hj=>by
    rw[hel j hj,<-fQ];exact Ext.aG m (fun k _=>by rw[Int.mul_assoc])),<-jx]
   exact Ext.aG m (fun k _=>by unfold Ext.fY;rw[Ext.hH])
  have e3:prt B W i*many-Ext.aK (fun j=>Ext.el g i j*gt x (j:Int)) n=Ext.aK (fun k=>c k*(rowR A B W m n k*many-Ext.fY A n k x)) m:=by
   rw[e1,e2,<-fQ,<-zy];exact Ext.aG m (fun k _=>by rw[Int.mul_sub,Int.mul_assoc])
  rw[e3];refine Ext.nQ m (fun k hk=>Int.dvd_mul_of_dvd_right ?_);by_cases ck:k<n
  ·exact(row k ck).1 (sx.eqs k (Nat.zero_le k) ck)
  ·have z1:Ext.fY A n k x=0:=by
    unfold Ext.fY;rw[Ext.aG n (g:=fun _=>0) (fun j hj=>by
     rw[Ext.aW (w:=n+m) (v:=A k) (j:=j) (by have:=a.hi k (by omega) hk;omega),Int.zero_mul]),Ext.oz]
   have z2:W∣rowR A B W m n k:=by
    have:=hR W w _ (a.rel (i:=k-n) (by omega));rw[show n+(k-n)=k by omega]at this;exact Int.dvd_of_emod_eq_zero this
   rw[z1,Int.sub_zero];exact Int.mul_dvd_mul z2 (Int.dvd_refl many)
 ·intro sx
  refine⟨sx.len,fun j hj=>by omega,fun j _ hj=>sx.rng j hj,fun k _ hk=>?_⟩;refine(row k hk).2 ?_;have e3:rowR A B W m n k*many-Ext.fY A n k x=Ext.aK (fun t=>A k (n+t)*(prt B W t*many-Ext.aK (fun j=>Ext.el g t j*gt x (j:Int)) n)) m:=by
   have e1:Ext.fY A n k x=Ext.aK (fun t=>A k (n+t)*Ext.aK (fun j=>Ext.el g t j*gt x (j:Int)) n) m:=by
    unfold Ext.fY;rw[Ext.aG n (g:=fun j=>Ext.aK (fun t=>A k (n+t)*(Ext.el g t j*gt x (j:Int))) m) (fun j hj=>by
     rw[a.tail (i:=k) (by omega) hj,<-fQ];exact Ext.aG m (fun t _=>by rw[Int.mul_assoc])),<-jx]
    exact Ext.aG m (fun t _=>by rw[Ext.hH])
   unfold rowR;rw[e1,<-fQ,<-zy];exact Ext.aG m (fun t _=>by rw[Int.mul_sub,Int.mul_assoc])
  rw[e3];exact Ext.nQ m (fun t ht=>Int.dvd_mul_of_dvd_right (sx.eqs t ht))
def vq(x:Fc):Rat:=rq x.n x.d
def cH(f:Nat->Rat):Nat->Rat
 |0=>0
 |n+1=>cH f n+f n
theorem cA{f g:Nat->Rat}:∀(n:Nat),(∀k,k<n->f k=g k)->cH f n=cH g n
 |0,_=>rfl
 |n+1,h=>by show cH f n+f n=cH g n+g n;rw[cA n (fun k hk=>h k (by omega)),h n (by omega)]
theorem sZ(c y:Nat->Int){D:Int}(hD:D≠0):∀n,cH (fun j=>(c j:Rat)*rq (y j) D) n=rq (Ext.aK (fun j=>c j*y j) n) D
 |0=>by
  show(0:Rat)=rq 0 D;have:=lJ (l:=0) hD;rw[Int.zero_mul]at this;rw[<-this];rfl
 |n+1=>by
  show cH (fun j=>(c j:Rat)*rq (y j) D) n+(c n:Rat)*rq (y n) D=rq (Ext.aK (fun j=>c j*y j) n+c n*y n) D;rw[sZ c y hD n,Gw,qJ hD]
def fr(a b:Int):Fc:=⟨(rq a b).num,(rq a b).den⟩
theorem Fl{a b:Int}(ha:a.natAbs<=1000000000000000000)(hb:b.natAbs<=1000000000000000000)(h0:b≠0):gS (fr a b).n (fr a b).d (rq a b):=⟨rfl,rfl,sT ha hb h0⟩
theorem I8{a b:Int}(h0:0<=a)(h1:a<b)(hb:b<=1000000000000000000):bQ (fr a b):=by
 have f:=Fl (a:=a) (b:=b) (by omega) (by omega) (by omega);have fl:=wX f (by omega);rw[Int.ediv_eq_zero_of_lt h0 h1]at fl;have hd:=f.den;refine⟨f.ok,?_,?_⟩
 ·have:=Int.emod_nonneg (fr a b).n (show(fr a b).d≠0 by omega)
  have e:=Int.emod_add_mul_ediv (fr a b).n (fr a b).d;rw[fl,Int.mul_zero]at e;omega
 ·have:=Int.emod_lt_of_pos (fr a b).n (show 0<(fr a b).d by omega)
  have e:=Int.emod_add_mul_ediv (fr a b).n (fr a b).d;rw[fl,Int.mul_zero]at e;omega
theorem Ga{a b:Int}(ha:a.natAbs<=1000000000000000000)(hb:b.natAbs<=1000000000000000000)(h0:b≠0):vq (fr a b)=rq a b:=(Fl ha hb h0).rq
theorem bQ.is{x:Fc}(h:bQ x):gS x.n x.d (vq x):=h.1.is
theorem JF{x y:Fc}(h1:x.n=y.n)(h2:x.d=y.d):x=y:=by cases x;cases y;simp_all
theorem DP{x:Fc}(hx:bQ x){y D:Int}(hD:0<D)(e:vq x=rq y D):0<=y/\y<D/\x=fr y D:=by
 have a:=hx.is;rw[e]at a;have fl:=wX a hD;rw[Int.ediv_eq_zero_of_lt hx.2.1 hx.2.2]at fl;have e1:=Int.emod_add_mul_ediv y D;rw[<-fl,Int.mul_zero]at e1;have:=Int.emod_nonneg y (show D≠0 by omega);have:=Int.emod_lt_of_pos y hD;refine⟨by omega,by omega,JF a.1 a.2.1⟩
structure AJ(g:List (List Int))(B:List Fc)(m n:Nat)(X:List Fc):Prop where
 len:X.length=n
 turn:∀j:Nat,j<n->bQ (gt X (j:Int))
 eqs:∀i:Nat,i<m->∃z:Int,cH (fun j=>(Ext.el g i j:Rat)*vq (gt X (j:Int))) n=vq (gt B (i:Int))+(z:Rat)
theorem sP(f:Int->Fc)(x:List Int){j:Nat}(h:j<x.length):gt (x.map f) (j:Int)=f (gt x (j:Int)):=by
 unfold gt;rw[List.getD_eq_getElem?_getD,List.getD_eq_getElem?_getD,show((j:Int)).toNat=j from rfl,List.getElem?_map,List.getElem?_eq_getElem h];rfl
theorem Dq{x y:List Fc}{n:Nat}(hx:x.length=n)(hy:y.length=n)(h:∀j:Nat,j<n->gt x (j:Int)=gt y (j:Int)):x=y:=by
 apply List.ext_getElem?;intro j;by_cases c:j<n
 ·have:=h j c
  unfold gt at this;rw[List.getD_eq_getElem?_getD,List.getD_eq_getElem?_getD,show((j:Int)).toNat=j from rfl,List.getElem?_eq_getElem (by omega),List.getElem?_eq_getElem (by omega)]at this;rw[List.getElem?_eq_getElem (by omega),List.getElem?_eq_getElem (by omega)];exact congrArg some this
 ·rw[List.getElem?_eq_none (by omega),List.getElem?_eq_none (by omega)]
theorem we{B:List Fc}{m:Nat}{W many:Int}(w:oP B m W)(hm:many≠0)(ht:∀i:Int,0<=i->i<m->bQ (gt B i)/\(gt B i).d<=60){i:Nat}(hi:i<m):vq (gt B (i:Int))=rq (prt B W i*many) (W*many):=by
 have:=(w.part ht hi).1.rq;rw[yx hm];exact this
theorem FO.frac{g:List (List Int)}{B:List Fc}{m n:Nat}{W many:Int}(w:oP B m W)(ht:∀i:Int,0<=i->i<m->bQ (gt B i)/\(gt B i).d<=60)(hm:0<many)(hs:W*many<=1000000000000000000){x:List Int}(s:FO g (prt B W) m n many (W*many) x):AJ g B m n (x.map (fun y=>fr y (W*many))):=by
 have sp:0<W*many:=Int.mul_pos w.pos hm;have hv:∀j:Nat,j<n->vq (gt (x.map (fun y=>fr y (W*many))) (j:Int))=rq (gt x (j:Int)) (W*many):=fun j hj=>by
  rw[sP _ x (by rw[s.len];exact hj)];obtain⟨r0,r1⟩:=s.rng j hj;exact Ga (by omega) (by omega) (by omega)
 refine⟨by rw[List.length_map];exact s.len,fun j hj=>?_,fun i hi=>?_⟩
 ·rw[sP _ x (by rw[s.len];exact hj)]
  obtain⟨r0,r1⟩:=s.rng j hj;exact I8 r0 r1 hs
 ·obtain⟨c,hc⟩:=s.eqs i hi
  refine⟨-c,?_⟩;rw[cA n (g:=fun j=>(Ext.el g i j:Rat)*rq (gt x (j:Int)) (W*many)) (fun j hj=>by rw[hv j hj]),sZ _ _ (show W*many≠0 by omega),we w (show many≠0 by omega) ht hi,lJ (l:=-c) (show W*many≠0 by omega),qJ (show W*many≠0 by omega)]
  congr 1
  rw[Int.neg_mul,Int.mul_comm c];omega
def cL(D:Int)(q:Rat):Prop:=∃y:Int,q=rq y D
theorem cL.add{D:Int}{p q:Rat}(hD:D≠0)(a:cL D p)(b:cL D q):cL D (p+q):=by
 obtain⟨y,rfl⟩:=a;obtain⟨z,rfl⟩:=b;exact⟨y+z,qJ hD⟩
theorem cL.sub{D:Int}{p q:Rat}(hD:D≠0)(a:cL D p)(b:cL D q):cL D (p-q):=by
 obtain⟨y,rfl⟩:=a;obtain⟨z,rfl⟩:=b;exact⟨y-z,GH hD⟩
theorem cL.mul{D:Int}{q:Rat}(c:Int)(a:cL D q):cL D ((c:Rat)*q):=by
 obtain⟨y,rfl⟩:=a;exact⟨c*y,Gw c y D⟩
theorem cL.int{D:Int}(hD:D≠0)(c:Int):cL D (c:Rat):=⟨c*D,lJ hD⟩
theorem cL.more{D c:Int}{q:Rat}(hc:c≠0)(a:cL D q):cL (D*c) q:=by
 obtain⟨y,rfl⟩:=a;exact⟨y*c,(yx hc).symm⟩
theorem cL.sum{D:Int}(hD:D≠0){f:Nat->Rat}:∀n,(∀k,k<n->cL D (f k))->cL D (cH f n)
 |0,_=>⟨0,by
  have:=lJ (l:=0) hD;rw[Int.zero_mul]at this;rw[<-this];rfl⟩
 |n+1,h=>(cL.sum hD n (fun k hk=>h k (by omega))).add hD (h n (by omega))
theorem cL.divide{D c:Int}{q:Rat}(hD:D≠0)(hc:c≠0)(a:cL D ((c:Rat)*q)):cL (D*c) q:=by
 obtain⟨y,hy⟩:=a;refine⟨y,?_⟩;have h1:=ng hD;have h2:=ng hc;unfold rq at hy ⊢;rw[Rat.intCast_mul];grind
theorem pR(f g:Nat->Rat):∀n,cH (fun k=>f k+g k) n=cH f n+cH g n
 |0=>by show(0:Rat)=0+0;grind
 |n+1=>by
  show cH (fun k=>f k+g k) n+(f n+g n)=cH f n+f n+(cH g n+g n);rw[pR f g n];grind
theorem kS(c:Rat)(f:Nat->Rat):∀n,cH (fun k=>c*f k) n=c*cH f n
 |0=>by show(0:Rat)=c*0;grind
 |n+1=>by
  show cH (fun k=>c*f k) n+c*f n=c*(cH f n+f n);rw[kS c f n];grind
theorem n7(f:Nat->Nat->Rat)(m:Nat):∀n,cH (fun i=>cH (fun j=>f i j) m) n=cH (fun j=>cH (fun i=>f i j) n) m
 |0=>by
  have:∀m,cH (fun _=>(0:Rat)) m=0:=fun m=>by
   induction m with
   |zero=>rfl
   |succ m ih=>show cH (fun _=>(0:Rat)) m+0=0;rw[ih];grind
  exact(this m).symm
 |n+1=>by
  show cH (fun i=>cH (fun j=>f i j) m) n+cH (fun j=>f n j) m=cH (fun j=>cH (fun i=>f i j) n+f n j) m;rw[n7 f m n,pR]
theorem zX(c:Nat->Int)(q:Rat):∀n,cH (fun k=>(c k:Rat)*q) n=(Ext.aK c n:Rat)*q
 |0=>by show(0:Rat)=((0:Int):Rat)*q;rw[Rat.intCast_zero];grind
 |n+1=>by
  show cH (fun k=>(c k:Rat)*q) n+(c n:Rat)*q=((Ext.aK c n+c n:Int):Rat)*q;rw[zX c q n,Rat.intCast_add];grind
theorem bA.over{g:List (List Int)}{m n s:Nat}{A:Nat->Ext.aJ}(a:bA g m n n s A){B:List Fc}{W:Int}(w:oP B m W)(ht:∀i:Int,0<=i->i<m->bQ (gt B i)/\(gt B i).d<=60){X:List Fc}(sx:AJ g B m n X){k:Nat}(hk:k<n):cL W (cH (fun j=>(A k j:Rat)*vq (gt X (j:Int))) n):=by
 have hs:=a.sum;have wp:=w.pos;have e:cH (fun j=>(A k j:Rat)*vq (gt X (j:Int))) n=cH (fun t=>(A k (n+t):Rat)*cH (fun j=>(Ext.el g t j:Rat)*vq (gt X (j:Int))) n) m:=by
  rw[cA n (g:=fun j=>cH (fun t=>(A k (n+t):Rat)*((Ext.el g t j:Rat)*vq (gt X (j:Int)))) m) (fun j hj=>by
   rw[a.tail (i:=k) (by omega) hj,<-zX];exact cA m (fun t _=>by rw[Rat.intCast_mul];grind)),<-n7]
  exact cA m (fun t _=>by rw[kS])
 rw[e];refine cL.sum (by omega) m (fun t htm=>cL.mul _ ?_);obtain⟨z,hz⟩:=sx.eqs t htm;rw[hz];exact cL.add (by omega) ⟨_,(w.part ht htm).1.rq⟩ (cL.int (by omega) z)
theorem sE{f:Nat->Rat}{k:Nat}:∀n,k<n->cH f n=f k+cH (fun j=>if j=k then 0 else f j) n
 |0,h=>by omega
 |n+1,h=>by
  show cH f n+f n=f k+(cH (fun j=>if j=k then 0 else f j) n+if n=k then 0 else f n);by_cases c:k=n
  ·subst c
   rw[if_pos rfl,cA (f:=fun j=>if j=k then 0 else f j) (g:=f) k (fun j hj=>by rw[if_neg (by omega)])];grind
  ·rw[if_neg (show ¬n=k by omega),sE (k:=k) n (by omega)]
   grind
theorem bA.sizes{g:List (List Int)}{m n s:Nat}{A:Nat->Ext.aJ}(a:bA g m n n s A){B:List Fc}{W:Int}(w:oP B m W)(ht:∀i:Int,0<=i->i<m->bQ (gt B i)/\(gt B i).d<=60){X:List Fc}(sx:AJ g B m n X):∀d,d<=n->∃c:Int,c≠0/\c*Ext.Mk A (n-d)=Ext.Mk A n/\∀j:Nat,n-d<=j->j<n->cL (W*c) (vq (gt X (j:Int)))
 |0,_=>⟨1,by decide,by rw[Int.one_mul];rfl,fun j h1 h2=>by omega⟩
 |d+1,h=>by
  obtain⟨c,c0,c1,c2⟩:=bA.sizes a w ht sx d (by omega);have wp:=w.pos;obtain⟨k,ek⟩:∃k,k=n-(d+1):=⟨_,rfl⟩;have e1:n-d=k+1:=by omega
  rw[<-ek];rw[e1]at c1 c2;have ap:=a.diag (i:=k) (by omega);have D0:W*c≠0:=Int.mul_ne_zero (by omega) c0;refine⟨c*A k k,Int.mul_ne_zero c0 (by omega),?_,fun j h1 h2=>?_⟩
  ·rw[<-c1]
   show c*A k k*Ext.Mk A k=c*(Ext.Mk A k*A k k);rw[Int.mul_assoc,Int.mul_comm (A k k)]
  ·rw[<-Int.mul_assoc]
   by_cases e:j=k
   ·subst e
    refine cL.divide D0 (by omega) ?_;have h3:=a.over w ht sx (k:=j) h2;have h4:=(h3.more c0:cL (W*c) _);rw[sE (k:=j) n h2]at h4;have h5:cL (W*c) (cH (fun i=>if i=j then 0 else(A j i:Rat)*vq (gt X (i:Int))) n):=cL.sum D0 n (fun i hi=>by
     show cL (W*c) (if i=j then 0 else(A j i:Rat)*vq (gt X (i:Int)));by_cases q:i=j
     ·rw[if_pos q]
      have:=cL.int D0 0;rw[Rat.intCast_zero]at this;exact this
     ·rw[if_neg q]
      by_cases l:i<j
      ·have z:A j i=0:=Ext.aW (w:=n+m) (by rw[a.lead_id h2];exact l)
       rw[z,Rat.intCast_zero];have:=cL.int D0 0;rw[Rat.intCast_zero]at this;rw[show(0:Rat)*vq (gt X (i:Int))=0 by grind];exact this
      ·exact cL.mul _ (c2 i (by omega) hi))
    have h6:=cL.sub D0 h4 h5;rw[show(A j j:Rat)*vq (gt X (j:Int))+cH (fun i=>if i=j then 0 else(A j i:Rat)*vq (gt X (i:Int))) n-cH (fun i=>if i=j then 0 else(A j i:Rat)*vq (gt X (i:Int))) n=(A j j:Rat)*vq (gt X (j:Int)) by grind]at h6;exact h6
   ·exact(c2 j (by omega) h2).more (by omega)
theorem bA.back{g:List (List Int)}{m n s:Nat}{A:Nat->Ext.aJ}(a:bA g m n n s A){B:List Fc}{W:Int}(w:oP B m W)(ht:∀i:Int,0<=i->i<m->bQ (gt B i)/\(gt B i).d<=60){X:List Fc}(sx:AJ g B m n X):∃x,FO g (prt B W) m n (Ext.Mk A n) (W*Ext.Mk A n) x/\X=x.map (fun y=>fr y (W*Ext.Mk A n)):=by
 obtain⟨c,c0,c1,c2⟩:=a.sizes w ht sx n (Nat.le_refl n);rw[Nat.sub_self]at c1 c2;have ec:c=Ext.Mk A n:=by rw[<-c1];show c=c*1;rw[Int.mul_one]
 have mp:=m8 n (fun i hi=>a.diag hi);have sp:0<W*Ext.Mk A n:=Int.mul_pos w.pos mp;rw[ec]at c2;obtain⟨size,es⟩:∃z,z=W*Ext.Mk A n:=⟨_,rfl⟩;rw[<-es]at c2 sp ⊢;have:∃y:Nat->Int,∀j:Nat,j<n->vq (gt X (j:Int))=rq (y j) size:=by
  have hy:∀j:Nat,∃y:Int,j<n->vq (gt X (j:Int))=rq y size:=fun j=>by
   by_cases h:j<n
   ·obtain⟨y,hy⟩:=c2 j (Nat.zero_le j) h
    exact⟨y,fun _=>hy⟩
   ·exact⟨0,fun q=>absurd q h⟩
  exact⟨fun j=>(hy j).choose,fun j hj=>(hy j).choose_spec hj⟩
 obtain⟨y,hy⟩:=this;have hp:∀j:Nat,j<n->0<=y j/\y j<size/\gt X (j:Int)=fr (y j) size:=fun j hj=>DP (sx.turn j hj) sp (hy j hj)
 have gy:∀j:Nat,j<n->gt (gn y n) (j:Int)=y j:=fun j hj=>cO y hj
 refine⟨gn y n,⟨aL y n,fun j hj=>?_,fun i hi=>?_⟩,?_⟩
 ·rw[gy j hj];exact⟨(hp j hj).1,(hp j hj).2.1⟩
 ·obtain⟨z,hz⟩:=sx.eqs i hi
  rw[cA n (g:=fun j=>(Ext.el g i j:Rat)*rq (y j) size) (fun j hj=>by rw[hy j hj]),sZ _ _ (show size≠0 by omega),we w (show Ext.Mk A n≠0 by omega) ht hi,<-es,lJ (l:=z) (show size≠0 by omega),qJ (show size≠0 by omega)]at hz;have h2:=(F4 (show size≠0 by omega)).1 hz;rw[Ext.aG n (f:=fun j=>Ext.el g i j*gt (gn y n) (j:Int)) (g:=fun j=>Ext.el g i j*y j) (fun j hj=>by rw[gy j hj]),h2];exact⟨-z,by rw[Int.mul_neg,Int.mul_comm size];omega⟩
 ·exact Dq sx.len (by rw[List.length_map,aL]) (fun j hj=>by
   rw[sP _ _ (by rw[aL];exact hj),gy j hj];exact(hp j hj).2.2)
def rr(n:Nat)(X Y:List Fc):Prop:=∃k:Nat,k<n/\(∀j:Nat,j<k->gt X (j:Int)=gt Y (j:Int))/\vq (gt X (k:Int))<vq (gt Y (k:Int))
theorem rr.irr{n:Nat}{X:List Fc}:¬rr n X X:=fun⟨_,_,_,h⟩=>Rat.lt_irrefl h
theorem rr.trans{n:Nat}{X Y Z:List Fc}(h:rr n X Y)(k:rr n Y Z):rr n X Z:=by
 obtain⟨a,a0,a1,a2⟩:=h;obtain⟨b,b0,b1,b2⟩:=k;rcases Nat.lt_trichotomy a b with c|c|c
 ·exact⟨a,a0,fun j hj=>(a1 j hj).trans (b1 j (by omega)),by rw[<-b1 a c];exact a2⟩
 ·subst c
  exact⟨a,a0,fun j hj=>(a1 j hj).trans (b1 j hj),by grind⟩
 ·exact⟨b,b0,fun j hj=>(a1 j (by omega)).trans (b1 j hj),by rw[a1 b c];exact b2⟩
theorem rA{n:Nat}:∀{L M:List (List Fc)},L.Pairwise (rr n)->M.Pairwise (rr n)->(∀X,X∈L↔X∈M)->L=M
 | [],[],_,_,_=>rfl
 | [],Y :: M,_,_,h=>absurd ((h Y).2 (List.mem_cons_self ..)) List.not_mem_nil
 |X :: L,[],_,_,h=>absurd ((h X).1 (List.mem_cons_self ..)) List.not_mem_nil
 |X :: L,Y :: M,hL,hM,h=>by
  obtain⟨l1,l2⟩:=List.pairwise_cons.1 hL;obtain⟨m1,m2⟩:=List.pairwise_cons.1 hM;have e:X=Y:=by
   rcases List.mem_cons.1 ((h X).1 (List.mem_cons_self ..))with q|q
   ·exact q
   ·rcases List.mem_cons.1 ((h Y).2 (List.mem_cons_self ..))with r|r
    ·exact r.symm
    ·exact absurd ((m1 X q).trans (l1 Y r)) rr.irr
  subst e;rw[rA l2 m2 (fun Z=>?_)];constructor
  ·intro q
   rcases List.mem_cons.1 ((h Z).1 (List.mem_cons_of_mem _ q))with r|r
   ·subst r;exact absurd (l1 Z q) rr.irr
   ·exact r
  ·intro q
   rcases List.mem_cons.1 ((h Z).2 (List.mem_cons_of_mem _ q))with r|r
   ·subst r;exact absurd (m1 Z q) rr.irr
   ·exact r
structure I5(g:List (List Int))(B:List Fc)(m n:Nat)(L:List (List Fc)):Prop where
 mem:∀X,X∈L↔AJ g B m n X
 ord:L.Pairwise (rr n)
theorem I5.uniq{g:List (List Int)}{B:List Fc}{m n:Nat}{L M:List (List Fc)}(a:I5 g B m n L)(b:I5 g B m n M):L=M:=
 rA a.ord b.ord (fun X=>(a.mem X).trans (b.mem X).symm)
variable{F:aM}{call head arith d0 k0 bnot m0 o0 s0 t0 u0 ofNat v0 place w0 nz x0 rd wr z0 next k1 o1 s1 t1 u1 v1 f2 g2 j2 part n2 o2 putAt p2 lowered bump s2 addN lt ne t2 u2 v2 yn rng f3 g3 j3 k3 l3:_}(hA:AP F ⟨call,head,arith,d0,k0,bnot,m0,o0,s0,t0,u0,ofNat,v0,place,w0,nz,x0,rd,wr,z0,next,k1,o1,s1,t1,u1,v1,f2,g2,j2,part,n2,o2,putAt,p2,lowered,bump,s2,addN,lt,ne,t2,u2,v2,yn,rng,f3,g3,j3,k3,l3⟩)
include hA
theorem Kl{h0:af}(hl0:h0.low<=h0.next){k bc:Nat}{ba:Option Addr}{B:List Fc}(hB:Rows fC 2 h0 ba k B)(k4:k<=4)(ht:∀i:Int,0<=i->i<k->bQ (gt B i)/\(gt B i).d<=60){M:Int}(eM:M=k){Q:Exit->SS->Prop}
  (hQ:∀W h' ,oP B k W->Ext h0 h'->Q (.exit 0) ⟨[(0,.slice ba k bc),(2,.slice none 0 0),(3,.int .i64 W)],0,[],h'⟩) :
  ∀(d i:Nat) (I W:Int) (h:af),k-i<=d->i<=k->I=i->oP B i W->Ext h0 h->
   head 48 3 0 ⟨[(0,.slice ba k bc),(2,.slice none 0 0),(3,.int .i64 W),(9,.slice ba k bc),(10,.int .i64 M),(11,.int .i64 I)],0,[],h⟩ Q:=by
 refine oD (fun d ih=>?_);intro i I W h hd hi eI w x;by_cases ci:i<k
 rotate_left
 ·refine hA.roundR Try.func48 r48_ok (zc ?_)
  refine br (I<M) (by rw[au hA]) (fun q=>by omega) (fun _=>?_)<;>refine zc ?_;obtain rfl:i=k:=by omega
  exact hQ W h w x
 obtain⟨d,rfl⟩:∃k,d=k+1:=⟨d-1,by omega⟩
 replace ih:=ih d rfl
 obtain⟨⟨ok,n0,n1⟩,d60⟩:=ht i (by omega) (by omega);obtain⟨bb,bo,rfl,_,w1⟩:=(hB.ext x).at (i:=I) (by omega) (by omega);have w1:=w1 0 2 (by omega) (by omega);obtain⟨f,ef⟩:∃f,f=gt B (i:Int):=⟨_,rfl⟩;rw[eI,<-ef,<-eI]at w1;rw[<-ef]at ok n0 n1 d60;have f1:=ok.is.den;have w2:=w.step (d:=f.d) (by rw[ef]) f1 d60;have wp:=w.pos;have wl:=w.le;have p60:(60:Nat) ^ i<=60 ^ 4:=Nat.pow_le_pow_right (by omega) (by omega);obtain⟨fn,fd⟩:=f;simp only at *;have r1:rd h bb (place bo I 2) 2 [.int .i64 fn,.int .i64 fd]:=az hA w1;have w2l:=w2.le;have w2p:=w2.pos;have p61:(60:Nat) ^ (i+1)<=60 ^ 4:=Nat.pow_le_pow_right (by omega) (by omega);have gpos:0<Int.gcd W fd:=Int.gcd_pos_of_ne_zero_left fd (by omega);refine hA.roundR Try.func48 r48_ok (zc ?_);refine br (I<M) (by rw[au hA]) (fun _=>?_) (fun q=>by omega)<;>refine zc ?_;refine zq ?_;refine Cw hA (x.lowOK hl0) (a:=W) (b:=fd) (by omega) (by omega) (fun h' x'=>⟨_,rfl,?_⟩);obtain⟨G,eG⟩:∃s:Int,s=(Int.gcd W fd:Int):=⟨_,rfl⟩;rw[<-eG]at w2 w2l w2p ⊢;have m1:arith .quo .i64 fd G=fd / G:=qE hA (by omega) (by omega) (by omega);obtain⟨c,ec⟩:∃s,s=fd / G:=⟨_,rfl⟩;rw[<-ec]at w2 w2l w2p m1;obtain⟨W2,eW2⟩:∃s,s=W*c:=⟨_,rfl⟩;rw[<-eW2]at w2 w2l w2p;have m2:arith .mul .i64 W c=W2:=by rw[eW2];exact iq hA (by rw[<-eW2];omega) (by rw[<-eW2];omega)
 (refine zq ?_;repeat ((first|rw[m1]|rw[m2]);refine zq ?_))
 rw[aB hA (by omega) (by omega)];exact ih (i+1) (I+1) W2 h' (by omega) (by omega) (by omega) w2 (x.trans x')
omit hA in
theorem DW(B:List Fc)(W:Int)(k:Nat):vA B W (k+1)=vA B W k++[(gt B (k:Int)).n*(W / (gt B (k:Int)).d)]:=gc _ _
theorem Ke{h0:af}(hl0:h0.low<=h0.next){k bc:Nat}{ba:Option Addr}{B:List Fc}(hB:Rows fC 2 h0 ba k B)(k4:k<=4)(ht:∀i:Int,0<=i->i<k->bQ (gt B i)/\(gt B i).d<=60){M W:Int}(eM:M=k)(w:oP B k W){Q:Exit->SS->Prop}
  (hQ:∀h' qa qc,jw h' 1 qa k qc ((vA B W k).flatMap nC)->gf h0.next qa->Ext h0 h'->Q (.exit 2) ⟨[(2,.slice qa k qc),(3,.int .i64 W)],0,[],h'⟩) :
  ∀(d i:Nat) (I:Int) (h:af) (qa:Option Addr) (qc:Nat),k-i<=d->i<=k->I=i->jw h 1 qa i qc ((vA B W i).flatMap nC)->gf h0.next qa->Ext h0 h->
   head 48 9 0 ⟨[(2,.slice qa i qc),(3,.int .i64 W),(25,.slice ba k bc),(26,.int .i64 M),(27,.int .i64 I)],0,[],h⟩ Q:=by
 refine oD (fun d ih=>?_);intro i I h qa qc hd hi eI t hf x;by_cases ci:i<k
 rotate_left
 ·refine hA.roundR Try.func48 r48_ok (zc ?_)
  refine br (I<M) (by rw[au hA]) (fun q=>by omega) (fun _=>?_)<;>refine zc ?_;obtain rfl:i=k:=by omega
  exact hQ h qa qc t hf x
 obtain⟨d,rfl⟩:∃k,d=k+1:=⟨d-1,by omega⟩
 replace ih:=ih d rfl
 obtain⟨⟨ok,n0,n1⟩,d60⟩:=ht i (by omega) (by omega);obtain⟨bb,bo,rfl,_,w1⟩:=(hB.ext x).at (i:=I) (by omega) (by omega);have w1:=w1 0 2 (by omega) (by omega);obtain⟨pq,p0,p1,_⟩:=w.part ht ci;have es:=DW B W i;have wp:=w.pos;have wl:=w.le;have p60:(60:Nat) ^ k<=60 ^ 4:=Nat.pow_le_pow_right (by omega) (by omega);obtain⟨f,ef⟩:∃f,f=gt B (i:Int):=⟨_,rfl⟩;rw[eI,<-ef,<-eI]at w1;rw[<-ef]at ok n0 n1 d60 es p0 p1;have f1:=ok.is.den;obtain⟨fn,fd⟩:=f;simp only at *;have r1:rd h bb (place bo I 2) 2 [.int .i64 fn,.int .i64 fd]:=az hA w1;have m1:arith .quo .i64 W fd=W / fd:=qE hA (by omega) (by omega) (by omega);obtain⟨c,ec⟩:∃s,s=W / fd:=⟨_,rfl⟩;rw[<-ec]at m1 es p0 p1;obtain⟨q,eq⟩:∃s,s=fn*c:=⟨_,rfl⟩;rw[<-eq]at es p0 p1;have m2:arith .mul .i64 fn c=q:=by rw[eq];exact iq hA (by rw[<-eq];omega) (by rw[<-eq];omega)
 obtain⟨h9,hh9⟩:∃z,z=bump h 11:=⟨_,rfl⟩;refine hA.roundR Try.func48 r48_ok (zc ?_);refine br (I<M) (by rw[au hA]) (fun _=>?_) (fun q=>by omega)<;>refine zc ?_;refine zq ?_;rw[<-hh9]
 (refine zq ?_;repeat ((first|rw[m1]|rw[m2]);refine zq ?_))
 refine C2 hA Hx df (by omega) uG hl0 x (by omega) hh9 (v:=q) t hf (by omega) (fun a' c' h' hp' hf' x'=>?_);obtain⟨hZ,hhZ⟩:∃z,z=lowered (putAt h9 (addN (next h) 8) 1 (nC q)) h':=⟨_,rfl⟩;rw[<-hhZ]at hp' x';have hhZ':hZ=lowered (putAt h9 (addN (next h) 8) 1 [.int .i64 q]) h':=hhZ;rw[<-es]at hp';obtain⟨i1,ei1⟩:∃z,z=i+1:=⟨_,rfl⟩;rw[<-ei1]at hp' ⊢;refine zc ?_;rw[<-hhZ'];refine zq ?_;rw[aB hA (by omega) (by omega)];exact ih i1 (I+1) hZ a' c' (by omega) (by omega) (by omega) hp' hf' x'
theorem ww{h:af}(hlow:h.low<=h.next){k bc:Nat}{ba:Option Addr}{B:List Fc}(hB:Rows fC 2 h ba k B)(k4:k<=4)(ht:∀i:Int,0<=i->i<k->bQ (gt B i)/\(gt B i).d<=60){Q:Value->af->Prop}
  (hQ:∀W h' qa qc,oP B k W->jw h' 1 qa k qc ((vA B W k).flatMap nC)->Ext h h'->Q (.tuple #[.slice qa k qc,.int .i64 W]) h'):call 48 [.slice ba k bc] h Q:=by
 obtain⟨M,eM⟩:∃s:Int,s=k:=⟨_,rfl⟩;have e0:ofNat k=M:=by rw[eM];exact aF hA k
 refine hA.bodyR Try.func48 r48_ok (hA.alike _ _ _ rfl) hlow (zc ?_)
 (refine zq ?_;repeat ((first|rw[e0]);refine zq ?_))
 refine Kl hA hlow hB k4 ht eM (fun W h1 w x=>?_) k 0 0 1 h (by omega) (by omega) rfl (oP.start B) (.refl h)
 (refine zq ?_;repeat ((first|rw[e0]);refine zq ?_))
 refine Ke hA hlow hB k4 ht eM w (fun h2 qa qc t hf x2=>?_) k 0 0 h1 none 0 (by omega) (by omega) rfl (.nil _ _) (.none _) x;refine zq ?_;exact hQ W h2 qa qc w t x2
theorem Gp{h:af}(hlow:h.low<=h.next){h0:af}{m n r s pc qc:Nat}{pa qa:Option Addr}{rb:Nat->Nat}{g:List (List Int)}{B:List Fc}{A:Nat->Ext.aJ}(hM:kT g m n)(a:bA g m n r s A)(ht:∀i:Int,0<=i->i<m->bQ (gt B i)/\(gt B i).d<=60){W:Int}(w:oP B m W)(hp:Rows nC 1 h pa m (vA B W m))(hr:AA h0 h s m qa qc rb (fun y j=>A (r+y) (n+j))){S:Int}(eS:S=s){c1:List Value}{Q:Exit->SS->Prop}
  (hret:(¬∀i,i<s->Ext.aK (fun j=>A (r+i) (n+j)*prt B W j) m % W=0)->∀env kn T,Q .ret ⟨(2,.bool false) :: env,kn,T,h⟩)
  (hend:(∀i,i<s->Ext.aK (fun j=>A (r+i) (n+j)*prt B W j) m % W=0)->∀kn T,Q (.exit 0) ⟨[],kn,T,h⟩) :
  ∀(d i:Nat) (I:Int),s-i<=d->i<=s->I=i->(∀j,j<i->Ext.aK (fun k=>A (r+j) (n+k)*prt B W k) m % W=0)->
   head 34 4 1 ⟨[(3,.slice pa m pc),(4,.int .i64 W),(21,.slice qa s qc),(22,.int .i64 S),(23,.int .i64 I)],1,[(0,c1)],h⟩ Q:=by
 intro d;have m4:=hM.m4;have hs:=a.sum;have hW:=w.few m4
 induction d with
 |zero=>
  intro i I hd hi eI hz;refine hA.roundR Try.func34 r34_ok (zc ?_);refine br (I<S) (by rw[au hA]) (fun q=>by omega) (fun _=>?_)<;>refine zc ?_;exact hend (fun j hj=>hz j (by omega)) _ _
 |succ d ih=>
 intro i I hd hi eI hz;by_cases ci:i<s
 rotate_left
 ·refine hA.roundR Try.func34 r34_ok (zc ?_)
  refine br (I<S) (by rw[au hA]) (fun q=>by omega) (fun _=>?_)<;>refine zc ?_;exact hend (fun j hj=>hz j (by omega)) _ _
 obtain⟨b,rfl,_,q1⟩:=hr.head ci;obtain⟨cw,ecw⟩:∃z,z=ar 1 m:=⟨_,rfl⟩;rw[<-ecw]at q1;have r1:rd h b (place 0 I 1) 1 [.slice (some ⟨rb i,0,none⟩) m cw]:=az hA (by rw[eI];exact q1);have rw1:=hr.rows.rowR ci;have ev:∀v,v=Ext.aK (fun k=>gt (gn (fun j=>A (r+i) (n+j)) m) (k:Int)*gt (vA B W m) (k:Int)) m % W->v=Ext.aK (fun k=>A (r+i) (n+k)*prt B W k) m % W:=fun v hv=>by
  rw[hv]
  congr 1
  exact Ext.aG m (fun k hk=>by rw[cO _ hk,xR hk])
 refine hA.roundR Try.func34 r34_ok (zc ?_);refine br (I<S) (by rw[au hA]) (fun _=>?_) (fun q=>by omega)<;>refine zc ?_;refine zq ?_;refine xP hA hlow rw1 hp (Nat.le_refl m) (by omega) (B:=8162933760000) (fun k hk=>?_) (by omega) w.pos (by omega) (fun v hv=>⟨v,rfl,?_⟩)
 ·rw[cO _ hk,xR hk]
  obtain⟨_,p0,p1,_⟩:=w.part ht hk;exact Cr (a.small hM (by omega) _) p0 p1 hW
 have hv2:=ev v hv;clear hv ev;refine zq ?_;refine br (v≠0) (by rw[bL hA]) (fun c=>?_) (fun c=>?_)<;>refine zc ?_
 ·refine zq ?_
  exact hret (fun q=>c (hv2.trans (q i ci))) _ _ _
 ·refine zq ?_
  rw[aB hA (by omega) (by omega)];refine ih (i+1) (I+1) (by omega) (by omega) (by omega) (fun j hj=>?_);by_cases e:j=i
  ·rw[e,<-hv2];omega
  ·exact hz j (by omega)
theorem zF(hI:ph F){h:af}(hlow:h.low<=h.next){m n ac k bc:Nat}{aa ba:Option Addr}{bY:List Hd}{g:List (List Int)}{B:List Fc}(hM:kT g m n)(hg:jX nC 1 h aa m bY g)(hB:Rows fC 2 h ba k B)(ekm:k=m)(ht:∀i:Int,0<=i->i<m->bQ (gt B i)/\(gt B i).d<=60){Q:Value->af->Prop}
  (hQ:∀(b:Bool) h',(b=true↔jI g B m n)->Ext h h'->Q (.bool b) h'):call 34 [.agg #[.slice aa m ac,.slice ba k bc]] h Q:=by
 subst ekm;refine hA.bodyR Try.func34 r34_ok (hA.alike _ _ _ rfl) hlow (zc ?_);refine zq ?_;refine ww hA hlow hB hM.m4 ht (fun W h1 pa pc w t x1=>⟨_,_,_,_,rfl,?_⟩);refine zq ?_;refine y7 hA hI (x1.lowOK hlow) hM (hg.ext x1) (fun h2 r s ra rc qa qc bs rb A st rw hd gd _=>⟨_,_,_,_,_,_,rfl,?_⟩);obtain⟨S,eS⟩:∃z:Int,z=s:=⟨_,rfl⟩;have e0:ofNat s=S:=by rw[eS];exact aF hA s
 have x2:=rw.ext
 (refine zq ?_;repeat ((first|rw[e0]);refine zq ?_))
 refine Gp hA (x2.lowOK (x1.lowOK hlow)) hM st ht w ⟨(t.ext x2).cells,df,by omega⟩ gd eS (fun q env kn T=>?_) (fun q kn T=>?_) s 0 0 (by omega) (by omega) rfl (fun j hj=>by omega)
 ·refine zq ?_
  exact hQ false h2 ⟨(fun q=>by cases q),fun z=>absurd ((st.holds ht w).2 z) q⟩ (x1.trans x2)
 ·refine zq ?_
  exact hQ true h2 ⟨fun _=>(st.holds ht w).1 q,fun _=>rfl⟩ (x1.trans x2)
theorem Fd(hI:ph F){h:af}(hlow:h.low<=h.next){m ac k bc:Nat}{aa ba:Option Addr}{bY:List Hd}{g:List (List Int)}{B:List Fc}(hg:vv nC 1 h aa m bY g)(hB:Rows fC 2 h ba k B)(hi:∀i:Int,0<=i->i<k->i64 (gt B i).n/\i64 (gt B i).d){Q:Value->af->Prop}
  (hQ0:∀e h',hO g B e->e≠0->Ext h h'->Q (.tuple #[.int .i64 0,.int .i64 0,.int .i64 e]) h')
  (hQ1:∀h' n,hO g B 0->kT g m n->¬jI g B m n->Ext h h'->Q (.tuple #[.int .i64 0,.int .i64 0,.int .i64 6]) h')
  (hQ2:∀h' n r (c f:Int),hO g B 0->kT g m n->jI g B m n->kv g m n r->c=(Ext.Dv g m n r:Nat)->f=(n:Int)-r->Ext h h'->Q (.tuple #[.int .i64 c,.int .i64 f,.int .i64 0]) h'):call 24 [.agg #[.slice aa m ac,.slice ba k bc]] h Q:=by
 refine hA.bodyR Try.func24 r24_ok (hA.alike _ _ _ rfl) hlow (zc ?_);refine zq ?_;refine zJ hA hlow hg hB hi (fun e h1 he x1=>⟨e,rfl,?_⟩);refine zq ?_;refine br (e≠0) (by rw[bL hA]) (fun c=>?_) (fun c=>?_)<;>refine zc ?_
 ·refine zq ?_
  exact hQ0 e h1 he c x1
 obtain rfl:e=0:=by omega
 obtain⟨gd,nm⟩:=he.good;obtain⟨m',n,hM⟩:=gd.mat nm;obtain rfl:m=m':=by have:=hg.len;have:=hM.len;omega
 have hgf:=hg.full (fun y y0 y1=>by rw[hM.row y y0 y1];exact hM.n1);have hkm:k=m:=by have:=gd.len;have:=hB.len;have:=hg.len;omega
 refine zq ?_;refine zF hA hI (x1.lowOK hlow) hM (hgf.ext x1) (hB.ext x1) hkm (fun i i0 i1=>gd.turn i i0 (by have:=hB.len;omega)) (fun b h2 hb x2=>⟨b,rfl,?_⟩);have y2:=x1.trans x2;cases b with
 |false=>
  refine zq ?_;rw[show bnot false=true by rw[cI hA];rfl];refine zq ?_;exact hQ1 h2 n he hM (fun q=>by have:=hb.2 q;cases this) y2
 |true=>
  refine zq ?_;rw[show bnot true=false by rw[cI hA];rfl];refine zq ?_;refine rt hA (y2.lowOK hlow) hM (hgf.ext y2) (fun h3 b k2 c2 r ek ir B2 x3=>⟨_,_,_,rfl,?_⟩);have y3:=y2.trans x3;obtain⟨h9,eh9⟩:∃z,z=bump h3 18:=⟨_,rfl⟩;have xb:Ext h3 h9:=by rw[eh9];exact aq hA _ _
  have y9:=y3.trans xb;have B9:=B2.ext xb;have R9:=bG.rows B9.own df (by omega) B9.lt;rw[show(Bd g m n k2).length=k2 from aL _ _]at R9;have rm:=ir.lm;have rn:=ir.ln;have m4:=hM.m4;have mm1:=hM.m1;have n4:=hM.n4;obtain⟨K2,eK2⟩:∃z:Int,z=k2:=⟨_,rfl⟩;have e0:ofNat k2=K2:=by rw[eK2];exact aF hA k2
  obtain⟨R,eR⟩:∃z:Int,z=r:=⟨_,rfl⟩;have m1:arith .sub .i64 K2 1=R:=by rw[bD hA (by omega) (by omega)];omega
  obtain⟨x,ex⟩:∃z:Int,z=(Ext.Dv g m n r:Nat):=⟨_,rfl⟩;have gx:gt (Bd g m n k2) R=x:=by
   rw[ex,eR];exact cO (fun x=>(Ext.Dv g m n x:Int)) (n:=k2) (i:=r) (by omega)
  obtain⟨b',o',e',_,q1⟩:=R9.at (i:=R) (by omega) (by omega);cases e';have q1:=q1 0 1 (by omega) (by omega);rw[gx]at q1;have r1:rd h9 b (place 0 R 1) 1 [.int .i64 x]:=az hA q1;obtain⟨N,eN⟩:∃z:Int,z=n:=⟨_,rfl⟩;have e1:ofNat n=N:=by rw[eN];exact aF hA n
  have hln:(gt g 0).length=n:=hM.row 0 (by omega) (by have:=hM.m1;omega);obtain⟨ab,ao,rfl,hab,w2⟩:=(hgf.ext y9).hdAt (i:=0) (by omega) (by have:=hM.m1;omega);have row:=(hgf.ext y9).row 0 (by omega) (by have:=hM.m1;omega);have hn2:=row.len;rw[hln]at hn2;rw[<-hn2]at w2;have r2:rd h9 ab (place ao 0 1) 1 [.slice (gt bY 0).a n (gt bY 0).c]:=az hA w2
  (refine zq ?_;repeat ((first|rw[e0]|rw[m1]);refine zq ?_))
  rw[<-eh9]
  (refine zq ?_;repeat ((first|rw[e0]|rw[e1]|rw[m1]);refine zq ?_))
  rw[bD hA (by omega) (by omega)];exact hQ2 h9 n r x (N-R) he hM (hb.1 rfl) ir ex (by omega) y9
