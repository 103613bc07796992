set_option linter.unusedSimpArgs false
set_option linter.unusedVariables false
namespace Go.Proofs.Ytogliemiljhliaa.Ext
abbrev Vec:=Nat->Int
abbrev Om:=List Bool->Int
def wedge:Nat->Vec->Om->Om
 |0,_,_,_=>0
 |_+1,_,_,[]=>0
 |m+1,v,w,false :: I=>wedge m v (fun J=>w (false :: J)) I
 |m+1,v,w,true :: I=>v m*w (false :: I)-wedge m v (fun J=>w (true :: J)) I
theorem wedge_congr:∀(m:Nat) {u v:Vec} (w:Om) (I:List Bool),(∀i,i<m->u i=v i)->wedge m u w I=wedge m v w I
 |0,_,_,_,_,_=>rfl
 |_+1,_,_,_,[],_=>rfl
 |m+1,u,v,w,false :: I,h=>wedge_congr m _ I (fun i hi=>h i (by omega))
 |m+1,u,v,w,true :: I,h=>by
  show u m*_-wedge m u _ I=v m*_-wedge m v _ I;rw[wedge_congr m _ I (fun i hi=>h i (by omega)),h m (by omega)]
theorem wedge_zero:∀(m:Nat) (v:Vec) (I:List Bool),wedge m v (fun _=>0) I=0
 |0,_,_=>rfl
 |_+1,_,[]=>rfl
 |m+1,v,false :: I=>wedge_zero m v I
 |m+1,v,true :: I=>by
  show v m*0-wedge m v (fun _=>0) I=0;rw[wedge_zero m v I];omega
theorem wedge_lin:∀(m:Nat) (v:Vec) (a b:Int) (w z:Om) (I:List Bool),wedge m v (fun J=>a*w J+b*z J) I=a*wedge m v w I+b*wedge m v z I
 |0,v,a,b,w,z,I=>by show(0:Int)=a*0+b*0;omega
 |_+1,v,a,b,w,z,[]=>by show(0:Int)=a*0+b*0;omega
 |m+1,v,a,b,w,z,false :: I=>wedge_lin m v a b _ _ I
 |m+1,v,a,b,w,z,true :: I=>by
  show v m*(a*w (false :: I)+b*z (false :: I))-wedge m v (fun J=>a*w (true :: J)+b*z (true :: J)) I=a*(v m*w (false :: I)-wedge m v (fun J=>w (true :: J)) I)+b*(v m*z (false :: I)-wedge m v (fun J=>z (true :: J)) I);rw[wedge_lin m v a b _ _ I];grind
theorem wedge_vec:∀(m:Nat) (u v:Vec) (a b:Int) (w:Om) (I:List Bool),wedge m (fun i=>a*u i+b*v i) w I=a*wedge m u w I+b*wedge m v w I
 |0,u,v,a,b,w,I=>by show(0:Int)=a*0+b*0;omega
 |_+1,u,v,a,b,w,[]=>by show(0:Int)=a*0+b*0;omega
 |m+1,u,v,a,b,w,false :: I=>wedge_vec m u v a b _ I
 |m+1,u,v,a,b,w,true :: I=>by
  show(a*u m+b*v m)*w (false :: I)-wedge m (fun i=>a*u i+b*v i) _ I=a*(u m*w (false :: I)-wedge m u _ I)+b*(v m*w (false :: I)-wedge m v _ I);rw[wedge_vec m u v a b _ I];grind
theorem wedge_alt:∀(m:Nat) (v:Vec) (w:Om) (I:List Bool),wedge m v (wedge m v w) I=0
 |0,_,_,_=>rfl
 |_+1,_,_,[]=>rfl
 |m+1,v,w,false :: I=>wedge_alt m v (fun J=>w (false :: J)) I
 |m+1,v,w,true :: I=>by
  show v m*wedge m v (fun J=>w (false :: J)) I-wedge m v (fun J=>v m*w (false :: J)-wedge m v (fun K=>w (true :: K)) J) I=0;have e:(fun J=>v m*w (false :: J)-wedge m v (fun K=>w (true :: K)) J)=(fun J=>v m*w (false :: J)+(-1)*wedge m v (fun K=>w (true :: K)) J):=by funext J;omega
  rw[e,wedge_lin m v (v m) (-1) (fun J=>w (false :: J)) (wedge m v (fun K=>w (true :: K))) I,wedge_alt m v _ I];omega
theorem wedge_anti(m:Nat)(u v:Vec)(w:Om)(I:List Bool):wedge m u (wedge m v w) I=-wedge m v (wedge m u w) I:=by
 have h:=wedge_alt m (fun i=>1*u i+1*v i) w I;have e:wedge m (fun i=>1*u i+1*v i) w=fun J=>1*wedge m u w J+1*wedge m v w J:=by funext J;exact wedge_vec m u v 1 1 w J
 rw[e,wedge_vec m u v 1 1,wedge_lin m u 1 1 (wedge m u w) (wedge m v w) I,wedge_lin m v 1 1 (wedge m u w) (wedge m v w) I,wedge_alt,wedge_alt]at h;omega
def unit:Om:=fun I=>if I.all (fun b=>!b)then 1 else 0
def prod(m:Nat)(W:Nat->Vec):Nat->Om
 |0=>unit
 |k+1=>wedge m (W k) (prod m W k)
def top(m:Nat):List Bool:=List.replicate m true
def vol(m:Nat)(W:Nat->Vec):Int:=prod m W m (top m)
def put(W:Nat->Vec)(i:Nat)(a:Vec):Nat->Vec:=fun k=>if k=i then a else W k
theorem prod_congr{m:Nat}{W V:Nat->Vec}:∀(k:Nat),(∀j,j<k->∀i,i<m->W j i=V j i)->prod m W k=prod m V k
 |0,_=>rfl
 |k+1,h=>by
  funext I
  show wedge m (W k) (prod m W k) I=wedge m (V k) (prod m V k) I;rw[prod_congr k (fun j hj=>h j (by omega)),wedge_congr m _ I (h k (by omega))]
theorem vol_congr{m:Nat}{W V:Nat->Vec}(h:∀j,j<m->∀i,i<m->W j i=V j i):vol m W=vol m V:=by
 unfold vol;rw[prod_congr m h]
theorem prod_has{m:Nat}{W:Nat->Vec}{k:Nat}:∀(d:Nat) (I:List Bool),wedge m (W k) (prod m W (k+1+d)) I=0
 |0,I=>wedge_alt m (W k) (prod m W k) I
 |d+1,I=>by
  show wedge m (W k) (wedge m (W (k+1+d)) (prod m W (k+1+d))) I=0;rw[wedge_anti];have e:wedge m (W k) (prod m W (k+1+d))=fun _=>0:=by funext J;exact prod_has d J
  rw[e,wedge_zero];rfl
theorem prod_none{m:Nat}{W:Nat->Vec}{k:Nat}(h:prod m W k=fun _=>0):∀d,prod m W (k+d)=fun _=>0
 |0=>h
 |d+1=>by
  funext I
  show wedge m (W (k+d)) (prod m W (k+d)) I=0;rw[prod_none h d,wedge_zero]
theorem vol_twice{m:Nat}{W:Nat->Vec}{i k:Nat}(hi:i<m)(hk:k<i)(e:∀r,r<m->W i r=W k r):vol m W=0:=by
 have h:prod m W (i+1)=fun _=>0:=by
  funext I
  show wedge m (W i) (prod m W i) I=0;rw[wedge_congr m _ I e,show i=k+1+(i-(k+1)) by omega];exact prod_has _ I
 have:=prod_none h (m-(i+1));unfold vol;rw[show m=i+1+(m-(i+1)) by omega]at this ⊢;rw[show i+1+(i+1+(m-(i+1))-(i+1))=i+1+(m-(i+1)) by omega]at this;rw[this]
theorem prod_put{m:Nat}{W:Nat->Vec}{i:Nat}{a b:Vec}{x y:Int}:∀(d:Nat),prod m (put W i (fun r=>x*a r+y*b r)) (i+1+d)=fun I=>x*prod m (put W i a) (i+1+d) I+y*prod m (put W i b) (i+1+d) I
 |0=>by
  have pre:∀c,prod m (put W i c) i=prod m W i:=fun c=>prod_congr i (fun j hj r hr=>by unfold put;rw[if_neg (by omega)])
  funext I
  show wedge m (put W i (fun r=>x*a r+y*b r) i) (prod m (put W i (fun r=>x*a r+y*b r)) i) I=x*wedge m (put W i a i) (prod m (put W i a) i) I+y*wedge m (put W i b i) (prod m (put W i b) i) I;rw[pre,pre,pre];have e:∀c,put W i c i=c:=fun c=>by unfold put;rw[if_pos rfl]
  rw[e,e,e,wedge_vec]
 |d+1=>by
  funext I
  show wedge m (put W i (fun r=>x*a r+y*b r) (i+1+d)) (prod m (put W i (fun r=>x*a r+y*b r)) (i+1+d)) I=x*wedge m (put W i a (i+1+d)) (prod m (put W i a) (i+1+d)) I+y*wedge m (put W i b (i+1+d)) (prod m (put W i b) (i+1+d)) I;have e:∀c,put W i c (i+1+d)=W (i+1+d):=fun c=>by unfold put;rw[if_neg (by omega)]
  rw[e,e,e,prod_put d,wedge_lin]
theorem vol_lin{m:Nat}{W:Nat->Vec}{i:Nat}(hi:i<m)(a b:Vec)(x y:Int):vol m (put W i (fun r=>x*a r+y*b r))=x*vol m (put W i a)+y*vol m (put W i b):=by
 have:=prod_put (m:=m) (W:=W) (i:=i) (a:=a) (b:=b) (x:=x) (y:=y) (m-(i+1));unfold vol;rw[show i+1+(m-(i+1))=m by omega]at this;rw[this]
def sumN(f:Nat->Int):Nat->Int
 |0=>0
 |k+1=>sumN f k+f k
theorem sumN_congr{f g:Nat->Int}:∀(n:Nat),(∀k,k<n->f k=g k)->sumN f n=sumN g n
 |0,_=>rfl
 |n+1,h=>by show sumN f n+f n=sumN g n+g n;rw[sumN_congr n (fun k hk=>h k (by omega)),h n (by omega)]
theorem sumN_mul(c:Int)(f:Nat->Int):∀n,sumN (fun k=>c*f k) n=c*sumN f n
 |0=>by show(0:Int)=c*0;omega
 |n+1=>by show sumN (fun k=>c*f k) n+c*f n=c*(sumN f n+f n);rw[sumN_mul c f n,Int.mul_add]
theorem sumN_add(f g:Nat->Int):∀n,sumN (fun k=>f k+g k) n=sumN f n+sumN g n
 |0=>rfl
 |n+1=>by show sumN (fun k=>f k+g k) n+(f n+g n)=sumN f n+f n+(sumN g n+g n);rw[sumN_add f g n];omega
theorem sumN_one{f:Nat->Int}{i:Nat}:∀(n:Nat),i<n->(∀k,k<n->k≠i->f k=0)->sumN f n=f i
 |0,h,_=>by omega
 |n+1,h,z=>by
  show sumN f n+f n=f i;by_cases e:i=n
  ·subst e
   rw[sumN_congr (g:=fun _=>0) i (fun k hk=>z k (by omega) (by omega))];have:∀n,sumN (fun _=>0) n=0:=fun n=>by induction n with|zero=>rfl|succ n ih=>show sumN _ n+0=0;rw[ih];rfl
   rw[this];omega
  ·rw[sumN_one n (by omega) (fun k hk=>z k (by omega)),z n (by omega) (by omega)];omega
theorem vol_sum{m:Nat}{W:Nat->Vec}{i:Nat}(hi:i<m)(x:Nat->Int)(U:Nat->Vec):∀n,vol m (put W i (fun r=>sumN (fun k=>x k*U k r) n))=sumN (fun k=>x k*vol m (put W i (U k))) n
 |0=>by
  show vol m (put W i (fun _=>0))=0;have:=vol_lin (W:=W) hi (fun _=>0) (fun _=>0) 0 0;have e:(fun _:Nat=>(0:Int)*0+0*0)=(fun _=>0):=rfl;rw[e]at this;omega
 |n+1=>by
  show vol m (put W i (fun r=>sumN (fun k=>x k*U k r) n+x n*U n r))=sumN (fun k=>x k*vol m (put W i (U k))) n+x n*vol m (put W i (U n));have:=vol_lin (W:=W) hi (fun r=>sumN (fun k=>x k*U k r) n) (U n) 1 (x n);rw[vol_sum hi x U n]at this;have e:(fun r=>1*sumN (fun k=>x k*U k r) n+x n*U n r)=(fun r=>sumN (fun k=>x k*U k r) n+x n*U n r):=by funext r;omega
  rw[e]at this;rw[this];omega
theorem put_self{W:Nat->Vec}{i:Nat}:put W i (W i)=W:=by
 funext k;unfold put;split
 ·rename_i e;rw[e]
 ·rfl
theorem cramer{m:Nat}{W:Nat->Vec}{i:Nat}(hi:i<m){a:Vec}{x:Nat->Int}(h:∀r,r<m->a r=sumN (fun k=>x k*W k r) m):vol m (put W i a)=x i*vol m W:=by
 have e:vol m (put W i a)=vol m (put W i (fun r=>sumN (fun k=>x k*W k r) m)):=vol_congr (fun j hj r hr=>by
  unfold put;split
  ·exact h r hr
  ·rfl)
 rw[e,vol_sum hi x W m,sumN_one (i:=i) m hi (fun k hk hne=>?_),put_self];have:vol m (put W i (W k))=0:=by
  rcases Nat.lt_or_gt_of_ne hne with q|q
  ·exact vol_twice (W:=put W i (W k)) hi q (fun r hr=>by unfold put;rw[if_pos rfl,if_neg (by omega)])
  ·exact vol_twice (W:=put W i (W k)) hk q (fun r hr=>by unfold put;rw[if_neg (by omega),if_pos rfl])
 rw[this];omega
def E(i:Nat):Vec:=fun r=>if r=i then 1 else 0
theorem prod_low{m:Nat}{W:Nat->Vec}:∀(k:Nat),(∀j,j<k->W j m=0)->(∀I,prod (m+1) W k (false :: I)=prod m W k I)/\(∀I,prod (m+1) W k (true :: I)=0)
 |0,_=>⟨fun I=>rfl,fun I=>rfl⟩
 |k+1,h=>by
  obtain⟨h1,h2⟩:=prod_low k (fun j hj=>h j (by omega));have e1:(fun J=>prod (m+1) W k (false :: J))=prod m W k:=funext h1;have e2:(fun J=>prod (m+1) W k (true :: J))=fun _=>0:=funext h2
  constructor
  ·intro I
   show wedge m (W k) (fun J=>prod (m+1) W k (false :: J)) I=wedge m (W k) (prod m W k) I;rw[e1]
  ·intro I
   show W k m*prod (m+1) W k (false :: I)-wedge m (W k) (fun J=>prod (m+1) W k (true :: J)) I=0;rw[e2,wedge_zero,h k (by omega)];omega
theorem vol_unit:∀m,vol m E=1
 |0=>rfl
 |m+1=>by
  obtain⟨h1,h2⟩:=prod_low (m:=m) (W:=E) m (fun j hj=>by unfold E;rw[if_neg (by omega)]);have e2:(fun J=>prod (m+1) E m (true :: J))=fun _=>0:=funext h2
  show E m m*prod (m+1) E m (false :: top m)-wedge m (E m) (fun J=>prod (m+1) E m (true :: J)) (top m)=1;rw[e2,wedge_zero,h1];have:prod m E m (top m)=1:=vol_unit m;rw[this];unfold E;rw[if_pos rfl];rfl
theorem sum_unit{x:Nat->Int}{m r:Nat}(hr:r<m):sumN (fun k=>x k*E k r) m=x r:=by
 rw[sumN_one (i:=r) m hr (fun k hk hne=>by unfold E;rw[if_neg (by omega)];omega)];unfold E;rw[if_pos rfl];omega
def nrm:Nat->Om->Nat
 |0,w=>(w []).natAbs
 |m+1,w=>nrm m (fun I=>w (false :: I))+nrm m (fun I=>w (true :: I))
def vn:Nat->Vec->Nat
 |0,_=>0
 |m+1,v=>vn m v+(v m).natAbs
theorem nrm_top:∀(m:Nat) (w:Om),(w (top m)).natAbs<=nrm m w
 |0,w=>Nat.le_refl _
 |m+1,w=>by
  have:=nrm_top m (fun I=>w (true :: I));show(w (true :: top m)).natAbs<=nrm m (fun I=>w (false :: I))+nrm m (fun I=>w (true :: I));exact Nat.le_trans this (Nat.le_add_left _ _)
theorem nrm_sub:∀(m:Nat) (c:Int) (w z:Om),nrm m (fun I=>c*w I-z I)<=c.natAbs*nrm m w+nrm m z
 |0,c,w,z=>by
  show(c*w []-z []).natAbs<=c.natAbs*(w []).natAbs+(z []).natAbs;rw[<-Int.natAbs_mul];omega
 |m+1,c,w,z=>by
  have h1:=nrm_sub m c (fun I=>w (false :: I)) (fun I=>z (false :: I));have h2:=nrm_sub m c (fun I=>w (true :: I)) (fun I=>z (true :: I));show nrm m (fun I=>c*w (false :: I)-z (false :: I))+nrm m (fun I=>c*w (true :: I)-z (true :: I))<=c.natAbs*(nrm m (fun I=>w (false :: I))+nrm m (fun I=>w (true :: I)))+(nrm m (fun I=>z (false :: I))+nrm m (fun I=>z (true :: I)));rw[Nat.mul_add];omega
theorem nrm_wedge:∀(m:Nat) (v:Vec) (w:Om),nrm m (wedge m v w)<=vn m v*nrm m w
 |0,v,w=>by show(0:Int).natAbs<=0*_;omega
 |m+1,v,w=>by
  have h1:=nrm_wedge m v (fun I=>w (false :: I));have h2:=nrm_wedge m v (fun I=>w (true :: I));have h3:=nrm_sub m (v m) (fun I=>w (false :: I)) (wedge m v (fun I=>w (true :: I)));show nrm m (wedge m v (fun I=>w (false :: I)))+nrm m (fun I=>v m*w (false :: I)-wedge m v (fun J=>w (true :: J)) I)<=(vn m v+(v m).natAbs)*(nrm m (fun I=>w (false :: I))+nrm m (fun I=>w (true :: I)));generalize nrm m (fun I=>w (false :: I))=A at *;generalize nrm m (fun I=>w (true :: I))=B at *;rw[Nat.add_mul,Nat.mul_add,Nat.mul_add];have:0<=(v m).natAbs*B:=Nat.zero_le _;omega
theorem nrm_unit:∀m,nrm m unit=1
 |0=>rfl
 |m+1=>by
  show nrm m unit+nrm m (fun _=>0)=1;have z:∀m,nrm m (fun _=>0)=0:=fun m=>by
   induction m with
   |zero=>rfl
   |succ m ih=>show nrm m (fun _=>0)+nrm m (fun _=>0)=0;rw[ih]
  rw[nrm_unit m,z]
def prodB(b:Nat->Nat):Nat->Nat
 |0=>1
 |k+1=>b k*prodB b k
theorem nrm_prod{m:Nat}{W:Nat->Vec}{b:Nat->Nat}:∀k,(∀j,j<k->vn m (W j)<=b j)->nrm m (prod m W k)<=prodB b k
 |0,_=>by show nrm m unit<=1;rw[nrm_unit];omega
 |k+1,h=>by
  have h1:=nrm_prod k (fun j hj=>h j (by omega));exact Nat.le_trans (nrm_wedge m (W k) (prod m W k)) (Nat.mul_le_mul (h k (by omega)) h1)
theorem vol_bound{m:Nat}{W:Nat->Vec}{b:Nat->Nat}(h:∀j,j<m->vn m (W j)<=b j):(vol m W).natAbs<=prodB b m:=
 Nat.le_trans (nrm_top m _) (nrm_prod m h)
theorem prodB_const(K:Nat):∀k,prodB (fun _=>K) k=K ^ k
 |0=>rfl
 |k+1=>by show K*prodB (fun _=>K) k=K ^ k*K;rw[prodB_const K k,Nat.mul_comm]
theorem prodB_put{K L i:Nat}:∀k,i<k->prodB (fun j=>if j=i then L else K) k=L*K ^ (k-1)
 |0,h=>by omega
 |k+1,h=>by
  show(if k=i then L else K)*prodB (fun j=>if j=i then L else K) k=L*K ^ k;by_cases e:k=i
  ·rw[if_pos e]
   have:prodB (fun j=>if j=i then L else K) k=K ^ k:=by
    rw[<-prodB_const K k];have:∀n,n<=i->prodB (fun j=>if j=i then L else K) n=prodB (fun _=>K) n:=fun n=>by
     induction n with
     |zero=>intro _;rfl
     |succ n ih=>intro hn;show(if n=i then L else K)*_=K*_;rw[if_neg (by omega),ih (by omega)]
    exact this k (by omega)
   rw[this]
  ·rw[if_neg e,prodB_put k (by omega)]
   obtain⟨j,rfl⟩:∃j,k=j+1:=⟨k-1,by omega⟩;rw[Nat.add_sub_cancel,Nat.pow_succ,<-Nat.mul_assoc,<-Nat.mul_assoc,Nat.mul_comm K L,Nat.mul_assoc,Nat.mul_assoc,Nat.mul_comm K]
theorem vn_unit:∀(m i:Nat),vn m (E i)<=1
 |0,i=>by show 0<=1;omega
 |m+1,i=>by
  show vn m (E i)+(E i m).natAbs<=1;by_cases e:m=i
  ·subst e
   have:∀n,n<=m->vn n (E m)=0:=fun n=>by
    induction n with
    |zero=>intro _;rfl
    |succ n ih=>intro hn;show vn n (E m)+(E m n).natAbs=0;rw[ih (by omega)];unfold E;rw[if_neg (by omega)];rfl
   rw[this m (Nat.le_refl _)];unfold E;rw[if_pos rfl];decide
  ·have:=vn_unit m i
   have z:E i m=0:=by unfold E;rw[if_neg e]
   rw[z];simpa using this
end Go.Proofs.Ytogliemiljhliaa.Ext
