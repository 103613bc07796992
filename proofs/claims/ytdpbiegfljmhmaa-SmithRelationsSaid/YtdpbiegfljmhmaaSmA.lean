set_option linter.unusedSimpArgs false
set_option linter.unusedVariables false
namespace Go.Proofs.Ytdpbiegfljmhmaa.Ext
abbrev Vec:=Nat->Int
abbrev Om:=List Bool->Int
def wedge:Nat->Vec->Om->Om
 |0,_,_,_=>0
 |_+1,_,_,[]=>0
 |m+1,v,w,false :: I=>wedge m v (fun J=>w (false :: J)) I
 |m+1,v,w,true :: I=>v m*w (false :: I)-wedge m v (fun J=>w (true :: J)) I
theorem wedge_congr:∀(m:Nat) {u v:Vec} (w:Om) (I:List Bool),(∀i,i<m->u i=v i)->wedge m u w I=wedge m v w I
 |0,_,_,_,_,_=>rfl
 |_+1,_,_,_,[],_=>rfl
 |m+1,u,v,w,false :: I,h=>wedge_congr m _ I (fun i hi=>h i (by omega))
 |m+1,u,v,w,true :: I,h=>by
  show u m*_-wedge m u _ I=v m*_-wedge m v _ I;rw[wedge_congr m _ I (fun i hi=>h i (by omega)),h m (by omega)]
theorem wedge_zero:∀(m:Nat) (v:Vec) (I:List Bool),wedge m v (fun _=>0) I=0
 |0,_,_=>rfl
 |_+1,_,[]=>rfl
 |m+1,v,false :: I=>wedge_zero m v I
 |m+1,v,true :: I=>by
  show v m*0-wedge m v (fun _=>0) I=0;rw[wedge_zero m v I];omega
theorem wedge_lin:∀(m:Nat) (v:Vec) (a b:Int) (w z:Om) (I:List Bool),wedge m v (fun J=>a*w J+b*z J) I=a*wedge m v w I+b*wedge m v z I
 |0,v,a,b,w,z,I=>by show(0:Int)=a*0+b*0;omega
 |_+1,v,a,b,w,z,[]=>by show(0:Int)=a*0+b*0;omega
 |m+1,v,a,b,w,z,false :: I=>wedge_lin m v a b _ _ I
 |m+1,v,a,b,w,z,true :: I=>by
  show v m*(a*w (false :: I)+b*z (false :: I))-wedge m v (fun J=>a*w (true :: J)+b*z (true :: J)) I=a*(v m*w (false :: I)-wedge m v (fun J=>w (true :: J)) I)+b*(v m*z (false :: I)-wedge m v (fun J=>z (true :: J)) I);rw[wedge_lin m v a b _ _ I];grind
theorem wedge_vec:∀(m:Nat) (u v:Vec) (a b:Int) (w:Om) (I:List Bool),wedge m (fun i=>a*u i+b*v i) w I=a*wedge m u w I+b*wedge m v w I
 |0,u,v,a,b,w,I=>by show(0:Int)=a*0+b*0;omega
 |_+1,u,v,a,b,w,[]=>by show(0:Int)=a*0+b*0;omega
 |m+1,u,v,a,b,w,false :: I=>wedge_vec m u v a b _ I
 |m+1,u,v,a,b,w,true :: I=>by
  show(a*u m+b*v m)*w (false :: I)-wedge m (fun i=>a*u i+b*v i) _ I=a*(u m*w (false :: I)-wedge m u _ I)+b*(v m*w (false :: I)-wedge m v _ I);rw[wedge_vec m u v a b _ I];grind
theorem wedge_alt:∀(m:Nat) (v:Vec) (w:Om) (I:List Bool),wedge m v (wedge m v w) I=0
 |0,_,_,_=>rfl
 |_+1,_,_,[]=>rfl
 |m+1,v,w,false :: I=>wedge_alt m v (fun J=>w (false :: J)) I
 |m+1,v,w,true :: I=>by
  show v m*wedge m v (fun J=>w (false :: J)) I-wedge m v (fun J=>v m*w (false :: J)-wedge m v (fun K=>w (true :: K)) J) I=0;have e:(fun J=>v m*w (false :: J)-wedge m v (fun K=>w (true :: K)) J)=(fun J=>v m*w (false :: J)+(-1)*wedge m v (fun K=>w (true :: K)) J):=by funext J;omega
  rw[e,wedge_lin m v (v m) (-1) (fun J=>w (false :: J)) (wedge m v (fun K=>w (true :: K))) I,wedge_alt m v _ I];omega
theorem wedge_anti(m:Nat)(u v:Vec)(w:Om)(I:List Bool):wedge m u (wedge m v w) I=-wedge m v (wedge m u w) I:=by
 have h:=wedge_alt m (fun i=>1*u i+1*v i) w I;have e:wedge m (fun i=>1*u i+1*v i) w=fun J=>1*wedge m u w J+1*wedge m v w J:=by funext J;exact wedge_vec m u v 1 1 w J
 rw[e,wedge_vec m u v 1 1,wedge_lin m u 1 1 (wedge m u w) (wedge m v w) I,wedge_lin m v 1 1 (wedge m u w) (wedge m v w) I,wedge_alt,wedge_alt]at h;omega
def unit:Om:=fun I=>if I.all (fun b=>!b)then 1 else 0
def prod(m:Nat)(W:Nat->Vec):Nat->Om
 |0=>unit
 |k+1=>wedge m (W k) (prod m W k)
def top(m:Nat):List Bool:=List.replicate m true
def vol(m:Nat)(W:Nat->Vec):Int:=prod m W m (top m)
def put(W:Nat->Vec)(i:Nat)(a:Vec):Nat->Vec:=fun k=>if k=i then a else W k
theorem prod_congr{m:Nat}{W V:Nat->Vec}:∀(k:Nat),(∀j,j<k->∀i,i<m->W j i=V j i)->prod m W k=prod m V k
 |0,_=>rfl
 |k+1,h=>by
  funext I
  show wedge m (W k) (prod m W k) I=wedge m (V k) (prod m V k) I;rw[prod_congr k (fun j hj=>h j (by omega)),wedge_congr m _ I (h k (by omega))]
theorem prod_has{m:Nat}{W:Nat->Vec}{k:Nat}:∀(d:Nat) (I:List Bool),wedge m (W k) (prod m W (k+1+d)) I=0
 |0,I=>wedge_alt m (W k) (prod m W k) I
 |d+1,I=>by
  show wedge m (W k) (wedge m (W (k+1+d)) (prod m W (k+1+d))) I=0;rw[wedge_anti];have e:wedge m (W k) (prod m W (k+1+d))=fun _=>0:=by funext J;exact prod_has d J
  rw[e,wedge_zero];rfl
theorem prod_none{m:Nat}{W:Nat->Vec}{k:Nat}(h:prod m W k=fun _=>0):∀d,prod m W (k+d)=fun _=>0
 |0=>h
 |d+1=>by
  funext I
  show wedge m (W (k+d)) (prod m W (k+d)) I=0;rw[prod_none h d,wedge_zero]
theorem prod_put{m:Nat}{W:Nat->Vec}{i:Nat}{a b:Vec}{x y:Int}:∀(d:Nat),prod m (put W i (fun r=>x*a r+y*b r)) (i+1+d)=fun I=>x*prod m (put W i a) (i+1+d) I+y*prod m (put W i b) (i+1+d) I
 |0=>by
  have pre:∀c,prod m (put W i c) i=prod m W i:=fun c=>prod_congr i (fun j hj r hr=>by unfold put;rw[if_neg (by omega)])
  funext I
  show wedge m (put W i (fun r=>x*a r+y*b r) i) (prod m (put W i (fun r=>x*a r+y*b r)) i) I=x*wedge m (put W i a i) (prod m (put W i a) i) I+y*wedge m (put W i b i) (prod m (put W i b) i) I;rw[pre,pre,pre];have e:∀c,put W i c i=c:=fun c=>by unfold put;rw[if_pos rfl]
  rw[e,e,e,wedge_vec]
 |d+1=>by
  funext I
  show wedge m (put W i (fun r=>x*a r+y*b r) (i+1+d)) (prod m (put W i (fun r=>x*a r+y*b r)) (i+1+d)) I=x*wedge m (put W i a (i+1+d)) (prod m (put W i a) (i+1+d)) I+y*wedge m (put W i b (i+1+d)) (prod m (put W i b) (i+1+d)) I;have e:∀c,put W i c (i+1+d)=W (i+1+d):=fun c=>by unfold put;rw[if_neg (by omega)]
  rw[e,e,e,prod_put d,wedge_lin]
def sumN(f:Nat->Int):Nat->Int
 |0=>0
 |k+1=>sumN f k+f k
theorem sumN_congr{f g:Nat->Int}:∀(n:Nat),(∀k,k<n->f k=g k)->sumN f n=sumN g n
 |0,_=>rfl
 |n+1,h=>by show sumN f n+f n=sumN g n+g n;rw[sumN_congr n (fun k hk=>h k (by omega)),h n (by omega)]
theorem sumN_mul(c:Int)(f:Nat->Int):∀n,sumN (fun k=>c*f k) n=c*sumN f n
 |0=>by show(0:Int)=c*0;omega
 |n+1=>by show sumN (fun k=>c*f k) n+c*f n=c*(sumN f n+f n);rw[sumN_mul c f n,Int.mul_add]
theorem sumN_add(f g:Nat->Int):∀n,sumN (fun k=>f k+g k) n=sumN f n+sumN g n
 |0=>rfl
 |n+1=>by show sumN (fun k=>f k+g k) n+(f n+g n)=sumN f n+f n+(sumN g n+g n);rw[sumN_add f g n];omega
theorem sumN_one{f:Nat->Int}{i:Nat}:∀(n:Nat),i<n->(∀k,k<n->k≠i->f k=0)->sumN f n=f i
 |0,h,_=>by omega
 |n+1,h,z=>by
  show sumN f n+f n=f i;by_cases e:i=n
  ·subst e
   rw[sumN_congr (g:=fun _=>0) i (fun k hk=>z k (by omega) (by omega))];have:∀n,sumN (fun _=>0) n=0:=fun n=>by induction n with|zero=>rfl|succ n ih=>show sumN _ n+0=0;rw[ih];rfl
   rw[this];omega
  ·rw[sumN_one n (by omega) (fun k hk=>z k (by omega)),z n (by omega) (by omega)];omega
theorem put_self{W:Nat->Vec}{i:Nat}:put W i (W i)=W:=by
 funext k;unfold put;split
 ·rename_i e;rw[e]
 ·rfl
def E(i:Nat):Vec:=fun r=>if r=i then 1 else 0
theorem prod_low{m:Nat}{W:Nat->Vec}:∀(k:Nat),(∀j,j<k->W j m=0)->(∀I,prod (m+1) W k (false :: I)=prod m W k I)/\(∀I,prod (m+1) W k (true :: I)=0)
 |0,_=>⟨fun I=>rfl,fun I=>rfl⟩
 |k+1,h=>by
  obtain⟨h1,h2⟩:=prod_low k (fun j hj=>h j (by omega));have e1:(fun J=>prod (m+1) W k (false :: J))=prod m W k:=funext h1;have e2:(fun J=>prod (m+1) W k (true :: J))=fun _=>0:=funext h2
  constructor
  ·intro I
   show wedge m (W k) (fun J=>prod (m+1) W k (false :: J)) I=wedge m (W k) (prod m W k) I;rw[e1]
  ·intro I
   show W k m*prod (m+1) W k (false :: I)-wedge m (W k) (fun J=>prod (m+1) W k (true :: J)) I=0;rw[e2,wedge_zero,h k (by omega)];omega
theorem vol_unit:∀m,vol m E=1
 |0=>rfl
 |m+1=>by
  obtain⟨h1,h2⟩:=prod_low (m:=m) (W:=E) m (fun j hj=>by unfold E;rw[if_neg (by omega)]);have e2:(fun J=>prod (m+1) E m (true :: J))=fun _=>0:=funext h2
  show E m m*prod (m+1) E m (false :: top m)-wedge m (E m) (fun J=>prod (m+1) E m (true :: J)) (top m)=1;rw[e2,wedge_zero,h1];have:prod m E m (top m)=1:=vol_unit m;rw[this];unfold E;rw[if_pos rfl];rfl
def vn:Nat->Vec->Nat
 |0,_=>0
 |m+1,v=>vn m v+(v m).natAbs
end Go.Proofs.Ytdpbiegfljmhmaa.Ext
namespace Go.Proofs.Ytdpbiegfljmhmaa.Ext
def leadFrom(v:Vec):Nat->Nat->Nat
 |0,k=>k
 |f+1,k=>if v k≠0 then k else leadFrom v f (k+1)
def leadV(w:Nat)(v:Vec):Nat:=leadFrom v w 0
theorem leadFrom_spec(v:Vec):∀(f k:Nat),k<=leadFrom v f k/\leadFrom v f k<=k+f/\(∀j,k<=j->j<leadFrom v f k->v j=0)/\(leadFrom v f k<k+f->v (leadFrom v f k)≠0)
 |0,k=>⟨Nat.le_refl _,Nat.le_refl _,fun j h1 h2=>by simp only[leadFrom]at h2;omega,fun h=>by simp only[leadFrom]at h;omega⟩
 |f+1,k=>by
  by_cases c:v k≠0
  ·have e:leadFrom v (f+1) k=k:=by show(if v k≠0 then k else _)=k;rw[if_pos c]
   rw[e];exact⟨Nat.le_refl _,by omega,fun j h1 h2=>by omega,fun _=>c⟩
  ·have e:leadFrom v (f+1) k=leadFrom v f (k+1):=by show(if v k≠0 then k else _)=_;rw[if_neg c]
   rw[e];obtain⟨h1,h2,h3,h4⟩:=leadFrom_spec v f (k+1);refine⟨by omega,by omega,fun j j1 j2=>?_,fun h=>h4 (by omega)⟩;by_cases e2:j=k
   ·subst e2;exact Classical.not_not.1 c
   ·exact h3 j (by omega) j2
theorem leadV_le(w:Nat)(v:Vec):leadV w v<=w:=by have:=(leadFrom_spec v w 0).2.1;unfold leadV;omega
theorem leadV_zero{w:Nat}{v:Vec}{j:Nat}(h:j<leadV w v):v j=0:=(leadFrom_spec v w 0).2.2.1 j (Nat.zero_le _) h
theorem leadV_ne{w:Nat}{v:Vec}(h:leadV w v<w):v (leadV w v)≠0:=(leadFrom_spec v w 0).2.2.2 (by unfold leadV at h;omega)
theorem leadV_eq{w c:Nat}{v:Vec}(hc:c<=w)(hz:∀j,j<c->v j=0)(hn:c<w->v c≠0):leadV w v=c:=by
 rcases Nat.lt_trichotomy (leadV w v) c with h|h|h
 ·exact absurd (hz _ h) (leadV_ne (by omega))
 ·exact h
 ·exact absurd (leadV_zero h) (hn (by have:=leadV_le w v;omega))
def Sp(w k:Nat)(F:Nat->Vec)(v:Vec):Prop:=∃y:Nat->Int,∀j,j<w->v j=sumN (fun i=>y i*F i j) k
theorem Sp.congr{w k:Nat}{F:Nat->Vec}{u v:Vec}(h:Sp w k F u)(e:∀j,j<w->u j=v j):Sp w k F v:=by
 obtain⟨y,hy⟩:=h;exact⟨y,fun j hj=>by rw[<-e j hj];exact hy j hj⟩
theorem sumN_zero(n:Nat):sumN (fun _=>0) n=0:=by induction n with|zero=>rfl|succ n ih=>show sumN _ n+0=0;rw[ih];rfl
theorem Sp.row{w k:Nat}(F:Nat->Vec){i:Nat}(hi:i<k):Sp w k F (F i):=by
 refine⟨fun j=>if j=i then 1 else 0,fun j _=>?_⟩;show F i j=sumN (fun m=>(if m=i then 1 else 0)*F m j) k;rw[sumN_one (i:=i) k hi (fun m _ hm=>by show(if m=i then 1 else 0)*F m j=0;rw[if_neg hm];omega)];show F i j=(if i=i then 1 else 0)*F i j;rw[if_pos rfl];omega
theorem Sp.zero(w k:Nat)(F:Nat->Vec):Sp w k F (fun _=>0):=⟨fun _=>0,fun j _=>by
 show(0:Int)=sumN (fun i=>0*F i j) k;rw[sumN_congr (g:=fun _=>0) k (fun i _=>by show 0*F i j=0;omega),sumN_zero]⟩
theorem Sp.comb{w k:Nat}{F:Nat->Vec}{u v:Vec}(a b:Int)(hu:Sp w k F u)(hv:Sp w k F v):Sp w k F (fun j=>a*u j+b*v j):=by
 obtain⟨y,hy⟩:=hu;obtain⟨z,hz⟩:=hv;refine⟨fun i=>a*y i+b*z i,fun j hj=>?_⟩;show a*u j+b*v j=sumN (fun i=>(a*y i+b*z i)*F i j) k;rw[hy j hj,hz j hj,<-sumN_mul,<-sumN_mul,<-sumN_add];exact sumN_congr k (fun i _=>by rw[Int.add_mul,Int.mul_assoc,Int.mul_assoc])
theorem Sp.sum{w k:Nat}{F:Nat->Vec}(y:Nat->Int)(G:Nat->Vec):∀n,(∀i,i<n->Sp w k F (G i))->Sp w k F (fun j=>sumN (fun i=>y i*G i j) n)
 |0,_=>Sp.zero w k F
 |n+1,h=>(Sp.comb 1 (y n) (Sp.sum y G n (fun i hi=>h i (by omega))) (h n (by omega))).congr (fun j _=>by show 1*sumN (fun i=>y i*G i j) n+y n*G n j=sumN (fun i=>y i*G i j) n+y n*G n j;omega)
theorem Sp.le{w k k':Nat}{F F':Nat->Vec}(h:∀i,i<k'->Sp w k F (F' i)){v:Vec}(hv:Sp w k' F' v):Sp w k F v:=by
 obtain⟨y,hy⟩:=hv;exact(Sp.sum y F' k' h).congr (fun j hj=>(hy j hj).symm)
structure Hnf(w k:Nat)(F:Nat->Vec):Prop where
 lt:∀i,i<k->leadV w (F i)<w
 pos:∀i,i<k->0<F i (leadV w (F i))
 inc:∀i j,i<j->j<k->leadV w (F i)<leadV w (F j)
 red:∀i j,i<j->j<k->0<=F i (leadV w (F j))/\F i (leadV w (F j))<F j (leadV w (F j))
structure Stp(w k:Nat)(F:Nat->Vec):Prop where
 lt:∀i,i<k->leadV w (F i)<w
 pos:∀i,i<k->0<F i (leadV w (F i))
 inc:∀i j,i<j->j<k->leadV w (F i)<leadV w (F j)
theorem Hnf.stp{w k:Nat}{F:Nat->Vec}(h:Hnf w k F):Stp w k F:=⟨h.lt,h.pos,h.inc⟩
theorem sumN_from{f:Nat->Int}{i:Nat}:∀(n:Nat),i<n->(∀k,k<i->f k=0)->(∀k,i<k->k<n->f k=0)->sumN f n=f i
 |n,h,z1,z2=>sumN_one n h (fun k hk hne=>by rcases Nat.lt_or_gt_of_ne hne with q|q;exact z1 k q;exact z2 k q hk)
theorem inc_inj{p:Nat->Nat}{k:Nat}(h:∀i j,i<j->j<k->p i<p j){i j:Nat}(hi:i<k)(hj:j<k)(e:p i=p j):i=j:=by
 rcases Nat.lt_trichotomy i j with q|q|q
 ·have:=h i j q hj;omega
 ·exact q
 ·have:=h j i q hi;omega
end Go.Proofs.Ytdpbiegfljmhmaa.Ext
