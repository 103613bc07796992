import Derived.Test.YtdpbiegfljmhmaaGreatSimC
import Derived.Below
import Derived.Laws.Externs
set_option linter.unusedSimpArgs false
set_option linter.unusedVariables false
namespace Go.Proofs.YtdpbiegfljmhmaaGreat.Ext
abbrev aQ:=Nat->Int
abbrev Om:=List Bool->Int
def aX:Nat->aQ->Om->Om
 |0,_,_,_=>0
 |_+1,_,_,[]=>0
 |m+1,v,w,false :: I=>aX m v (fun J=>w (false :: J)) I
 |m+1,v,w,true :: I=>v m*w (false :: I)-aX m v (fun J=>w (true :: J)) I
theorem mf:∀(m:Nat) {u v:aQ} (w:Om) (I:List Bool),(∀i,i<m->u i=v i)->aX m u w I=aX m v w I
 |0,_,_,_,_,_=>rfl
 |_+1,_,_,_,[],_=>rfl
 |m+1,u,v,w,false :: I,h=>mf m _ I (fun i hi=>h i om)
 |m+1,u,v,w,true :: I,h=>by
  show u m*_-aX m u _ I=v m*_-aX m v _ I;rw[mf m _ I (fun i hi=>h i om),h m om]
theorem iI:∀(m:Nat) (v:aQ) (I:List Bool),aX m v (fun _=>0) I=0
 |0,_,_=>rfl
 |_+1,_,[]=>rfl
 |m+1,v,false :: I=>iI m v I
 |m+1,v,true :: I=>by
  show v m*0-aX m v (fun _=>0) I=0;rw[iI m v I];omega
theorem iQ:∀(m:Nat) (v:aQ) (a b:Int) (w z:Om) (I:List Bool),aX m v (fun J=>a*w J+b*z J) I=a*aX m v w I+b*aX m v z I
 |0,v,a,b,w,z,I=>by show(0:Int)=a*0+b*0;omega
 |_+1,v,a,b,w,z,[]=>by show(0:Int)=a*0+b*0;omega
 |m+1,v,a,b,w,z,false :: I=>iQ m v a b _ _ I
 |m+1,v,a,b,w,z,true :: I=>by
  show v m*(a*w (false :: I)+b*z (false :: I))-aX m v (fun J=>a*w (true :: J)+b*z (true :: J)) I=a*(v m*w (false :: I)-aX m v (fun J=>w (true :: J)) I)+b*(v m*z (false :: I)-aX m v (fun J=>z (true :: J)) I);rw[iQ m v a b _ _ I];grind
theorem mO:∀(m:Nat) (u v:aQ) (a b:Int) (w:Om) (I:List Bool),aX m (fun i=>a*u i+b*v i) w I=a*aX m u w I+b*aX m v w I
 |0,u,v,a,b,w,I=>by show(0:Int)=a*0+b*0;omega
 |_+1,u,v,a,b,w,[]=>by show(0:Int)=a*0+b*0;omega
 |m+1,u,v,a,b,w,false :: I=>mO m u v a b _ I
 |m+1,u,v,a,b,w,true :: I=>by
  show(a*u m+b*v m)*w (false :: I)-aX m (fun i=>a*u i+b*v i) _ I=a*(u m*w (false :: I)-aX m u _ I)+b*(v m*w (false :: I)-aX m v _ I);rw[mO m u v a b _ I];grind
theorem kU:∀(m:Nat) (v:aQ) (w:Om) (I:List Bool),aX m v (aX m v w) I=0
 |0,_,_,_=>rfl
 |_+1,_,_,[]=>rfl
 |m+1,v,w,false :: I=>kU m v (fun J=>w (false :: J)) I
 |m+1,v,w,true :: I=>by
  show v m*aX m v (fun J=>w (false :: J)) I-aX m v (fun J=>v m*w (false :: J)-aX m v (fun K=>w (true :: K)) J) I=0;have e:(fun J=>v m*w (false :: J)-aX m v (fun K=>w (true :: K)) J)=(fun J=>v m*w (false :: J)+(-1)*aX m v (fun K=>w (true :: K)) J):=by funext J;omega
  rw[e,iQ m v (v m) (-1) (fun J=>w (false :: J)) (aX m v (fun K=>w (true :: K))) I,kU m v _ I];omega
theorem xj(m:Nat)(u v:aQ)(w:Om)(I:List Bool):aX m u (aX m v w) I=-aX m v (aX m u w) I:=by
 have h:=kU m (fun i=>1*u i+1*v i) w I;have e:aX m (fun i=>1*u i+1*v i) w=fun J=>1*aX m u w J+1*aX m v w J:=by funext J;exact mO m u v 1 1 w J
 rw[e,mO m u v 1 1,iQ m u 1 1 (aX m u w) (aX m v w) I,iQ m v 1 1 (aX m u w) (aX m v w) I,kU,kU]at h;omega
def unit:Om:=fun I=>if I.all (fun b=>!b)then 1 else 0
def prod(m:Nat)(W:Nat->aQ):Nat->Om
 |0=>unit
 |k+1=>aX m (W k) (prod m W k)
def top(m:Nat):List Bool:=List.replicate m true
def vol(m:Nat)(W:Nat->aQ):Int:=prod m W m (top m)
def put(W:Nat->aQ)(i:Nat)(a:aQ):Nat->aQ:=fun k=>if k=i then a else W k
theorem fL{m:Nat}{W V:Nat->aQ}:∀(k:Nat),(∀j,j<k->∀i,i<m->W j i=V j i)->prod m W k=prod m V k
 |0,_=>rfl
 |k+1,h=>by
  funext I
  show aX m (W k) (prod m W k) I=aX m (V k) (prod m V k) I;rw[fL k (fun j hj=>h j om),mf m _ I (h k om)]
theorem xk{m:Nat}{W:Nat->aQ}{k:Nat}:∀(d:Nat) (I:List Bool),aX m (W k) (prod m W (k+1+d)) I=0
 |0,I=>kU m (W k) (prod m W k) I
 |d+1,I=>by
  show aX m (W k) (aX m (W (k+1+d)) (prod m W (k+1+d))) I=0;rw[xj];have e:aX m (W k) (prod m W (k+1+d))=fun _=>0:=by funext J;exact xk d J
  rw[e,iI];rfl
theorem z8{m:Nat}{W:Nat->aQ}{k:Nat}(h:prod m W k=fun _=>0):∀d,prod m W (k+d)=fun _=>0
 |0=>h
 |d+1=>by
  funext I
  show aX m (W (k+d)) (prod m W (k+d)) I=0;rw[z8 h d,iI]
theorem C4{m:Nat}{W:Nat->aQ}{i:Nat}{a b:aQ}{x y:Int}:∀(d:Nat),prod m (put W i (fun r=>x*a r+y*b r)) (i+1+d)=fun I=>x*prod m (put W i a) (i+1+d) I+y*prod m (put W i b) (i+1+d) I
 |0=>by
  have pre:∀c,prod m (put W i c) i=prod m W i:=fun c=>fL i (fun j hj r hr=>by unfold put;rw[if_neg om])
  funext I
  show aX m (put W i (fun r=>x*a r+y*b r) i) (prod m (put W i (fun r=>x*a r+y*b r)) i) I=x*aX m (put W i a i) (prod m (put W i a) i) I+y*aX m (put W i b i) (prod m (put W i b) i) I;rw[pre,pre,pre];have e:∀c,put W i c i=c:=fun c=>by unfold put;rw[if_pos rfl]
  rw[e,e,e,mO]
 |d+1=>by
  funext I
  show aX m (put W i (fun r=>x*a r+y*b r) (i+1+d)) (prod m (put W i (fun r=>x*a r+y*b r)) (i+1+d)) I=x*aX m (put W i a (i+1+d)) (prod m (put W i a) (i+1+d)) I+y*aX m (put W i b (i+1+d)) (prod m (put W i b) (i+1+d)) I;have e:∀c,put W i c (i+1+d)=W (i+1+d):=fun c=>by unfold put;rw[if_neg om]
  rw[e,e,e,C4 d,iQ]
def aP(f:Nat->Int):Nat->Int
 |0=>0
 |k+1=>aP f k+f k
theorem aT{f g:Nat->Int}:∀(n:Nat),(∀k,k<n->f k=g k)->aP f n=aP g n
 |0,_=>rfl
 |n+1,h=>by show aP f n+f n=aP g n+g n;rw[aT n (fun k hk=>h k om),h n om]
theorem jV(c:Int)(f:Nat->Int):∀n,aP (fun k=>c*f k) n=c*aP f n
 |0=>by show(0:Int)=c*0;omega
 |n+1=>by show aP (fun k=>c*f k) n+c*f n=c*(aP f n+f n);rw[jV c f n,Int.mul_add]
theorem sP(f g:Nat->Int):∀n,aP (fun k=>f k+g k) n=aP f n+aP g n
 |0=>rfl
 |n+1=>by show aP (fun k=>f k+g k) n+(f n+g n)=aP f n+f n+(aP g n+g n);rw[sP f g n];omega
theorem pv{f:Nat->Int}{i:Nat}:∀(n:Nat),i<n->(∀k,k<n->k≠i->f k=0)->aP f n=f i
 |0,h,_=>om
 |n+1,h,z=>by
  show aP f n+f n=f i;by_cases e:i=n
  ·subst e
   rw[aT (g:=fun _=>0) i (fun k hk=>z k om om)];have:∀n,aP (fun _=>0) n=0:=fun n=>by induction n with|zero=>rfl|succ n ih=>show aP _ n+0=0;rw[ih];rfl
   rw[this];omega
  ·rw[pv n om (fun k hk=>z k om),z n om om];omega
theorem jj{W:Nat->aQ}{i:Nat}:put W i (W i)=W:=by
 funext k;unfold put;split
 ·rename_i e;rw[e]
 ·rfl
def E(i:Nat):aQ:=fun r=>if r=i then 1 else 0
theorem xq{m:Nat}{W:Nat->aQ}:∀(k:Nat),(∀j,j<k->W j m=0)->(∀I,prod (m+1) W k (false :: I)=prod m W k I)/\(∀I,prod (m+1) W k (true :: I)=0)
 |0,_=>⟨fun I=>rfl,fun I=>rfl⟩
 |k+1,h=>by
  obtain⟨h1,h2⟩:=xq k (fun j hj=>h j om);have e1:(fun J=>prod (m+1) W k (false :: J))=prod m W k:=funext h1;have e2:(fun J=>prod (m+1) W k (true :: J))=fun _=>0:=funext h2
  constructor
  ·intro I
   show aX m (W k) (fun J=>prod (m+1) W k (false :: J)) I=aX m (W k) (prod m W k) I;rw[e1]
  ·intro I
   show W k m*prod (m+1) W k (false :: I)-aX m (W k) (fun J=>prod (m+1) W k (true :: J)) I=0;rw[e2,iI,h k om];omega
theorem C5:∀m,vol m E=1
 |0=>rfl
 |m+1=>by
  obtain⟨h1,h2⟩:=xq (m:=m) (W:=E) m (fun j hj=>by unfold E;rw[if_neg om]);have e2:(fun J=>prod (m+1) E m (true :: J))=fun _=>0:=funext h2
  show E m m*prod (m+1) E m (false :: top m)-aX m (E m) (fun J=>prod (m+1) E m (true :: J)) (top m)=1;rw[e2,iI,h1];have:prod m E m (top m)=1:=C5 m;rw[this];unfold E;rw[if_pos rfl];rfl
def vn:Nat->aQ->Nat
 |0,_=>0
 |m+1,v=>vn m v+(v m).natAbs
end Go.Proofs.YtdpbiegfljmhmaaGreat.Ext
namespace Go.Proofs.YtdpbiegfljmhmaaGreat.Ext
def gC(v:aQ):Nat->Nat->Nat
 |0,k=>k
 |f+1,k=>if v k≠0 then k else gC v f (k+1)
def aj(w:Nat)(v:aQ):Nat:=gC v w 0
theorem jM(v:aQ):∀(f k:Nat),k<=gC v f k/\gC v f k<=k+f/\(∀j,k<=j->j<gC v f k->v j=0)/\(gC v f k<k+f->v (gC v f k)≠0)
 |0,k=>⟨Nat.le_refl _,Nat.le_refl _,fun j h1 h2=>by simp only[gC]at h2;omega,fun h=>by simp only[gC]at h;omega⟩
 |f+1,k=>by
  by_cases c:v k≠0
  ·have e:gC v (f+1) k=k:=by show(if v k≠0 then k else _)=k;rw[if_pos c]
   rw[e];exact⟨Nat.le_refl _,om,fun j h1 h2=>om,fun _=>c⟩
  ·have e:gC v (f+1) k=gC v f (k+1):=by show(if v k≠0 then k else _)=_;rw[if_neg c]
   rw[e];obtain⟨h1,h2,h3,h4⟩:=jM v f (k+1);refine⟨om,om,fun j j1 j2=>?_,fun h=>h4 om⟩;by_cases e2:j=k
   ·subst e2;exact Classical.not_not.1 c
   ·exact h3 j om j2
theorem mP(w:Nat)(v:aQ):aj w v<=w:=by have:=(jM v w 0).2.1;unfold aj;omega
theorem bz{w:Nat}{v:aQ}{j:Nat}(h:j<aj w v):v j=0:=(jM v w 0).2.2.1 j (Nat.zero_le _) h
theorem lD{w:Nat}{v:aQ}(h:aj w v<w):v (aj w v)≠0:=(jM v w 0).2.2.2 (by unfold aj at h;omega)
theorem iz{w c:Nat}{v:aQ}(hc:c<=w)(hz:∀j,j<c->v j=0)(hn:c<w->v c≠0):aj w v=c:=by
 rcases Nat.lt_trichotomy (aj w v) c with h|h|h
 ·exact absurd (hz _ h) (lD om)
 ·exact h
 ·exact absurd (bz h) (hn (by have:=mP w v;omega))
def Sp(w k:Nat)(F:Nat->aQ)(v:aQ):Prop:=∃y:Nat->Int,∀j,j<w->v j=aP (fun i=>y i*F i j) k
theorem Sp.congr{w k:Nat}{F:Nat->aQ}{u v:aQ}(h:Sp w k F u)(e:∀j,j<w->u j=v j):Sp w k F v:=by
 obtain⟨y,hy⟩:=h;exact⟨y,fun j hj=>by rw[<-e j hj];exact hy j hj⟩
theorem qt(n:Nat):aP (fun _=>0) n=0:=by induction n with|zero=>rfl|succ n ih=>show aP _ n+0=0;rw[ih];rfl
theorem Sp.row{w k:Nat}(F:Nat->aQ){i:Nat}(hi:i<k):Sp w k F (F i):=by
 refine⟨fun j=>if j=i then 1 else 0,fun j _=>?_⟩;show F i j=aP (fun m=>(if m=i then 1 else 0)*F m j) k;rw[pv (i:=i) k hi (fun m _ hm=>by show(if m=i then 1 else 0)*F m j=0;rw[if_neg hm];omega)];show F i j=(if i=i then 1 else 0)*F i j;rw[if_pos rfl];omega
theorem Sp.zero(w k:Nat)(F:Nat->aQ):Sp w k F (fun _=>0):=⟨fun _=>0,fun j _=>by
 show(0:Int)=aP (fun i=>0*F i j) k;rw[aT (g:=fun _=>0) k (fun i _=>by show 0*F i j=0;omega),qt]⟩
theorem Sp.comb{w k:Nat}{F:Nat->aQ}{u v:aQ}(a b:Int)(hu:Sp w k F u)(hv:Sp w k F v):Sp w k F (fun j=>a*u j+b*v j):=by
 obtain⟨y,hy⟩:=hu;obtain⟨z,hz⟩:=hv;refine⟨fun i=>a*y i+b*z i,fun j hj=>?_⟩;show a*u j+b*v j=aP (fun i=>(a*y i+b*z i)*F i j) k;rw[hy j hj,hz j hj,<-jV,<-jV,<-sP];exact aT k (fun i _=>by rw[Int.add_mul,Int.mul_assoc,Int.mul_assoc])
theorem Sp.sum{w k:Nat}{F:Nat->aQ}(y:Nat->Int)(G:Nat->aQ):∀n,(∀i,i<n->Sp w k F (G i))->Sp w k F (fun j=>aP (fun i=>y i*G i j) n)
 |0,_=>Sp.zero w k F
 |n+1,h=>(Sp.comb 1 (y n) (Sp.sum y G n (fun i hi=>h i om)) (h n om)).congr (fun j _=>by show 1*aP (fun i=>y i*G i j) n+y n*G n j=aP (fun i=>y i*G i j) n+y n*G n j;omega)
theorem Sp.le{w k k':Nat}{F F':Nat->aQ}(h:∀i,i<k'->Sp w k F (F' i)){v:aQ}(hv:Sp w k' F' v):Sp w k F v:=by
 obtain⟨y,hy⟩:=hv;exact(Sp.sum y F' k' h).congr (fun j hj=>(hy j hj).symm)
structure Ft(w k:Nat)(F:Nat->aQ):Prop where
 lt:∀i,i<k->aj w (F i)<w
 pos:∀i,i<k->0<F i (aj w (F i))
 inc:∀i j,i<j->j<k->aj w (F i)<aj w (F j)
 red:∀i j,i<j->j<k->0<=F i (aj w (F j))/\F i (aj w (F j))<F j (aj w (F j))
structure A8(w k:Nat)(F:Nat->aQ):Prop where
 lt:∀i,i<k->aj w (F i)<w
 pos:∀i,i<k->0<F i (aj w (F i))
 inc:∀i j,i<j->j<k->aj w (F i)<aj w (F j)
theorem Ft.gv{w k:Nat}{F:Nat->aQ}(h:Ft w k F):A8 w k F:=⟨h.lt,h.pos,h.inc⟩
theorem IB{f:Nat->Int}{i:Nat}:∀(n:Nat),i<n->(∀k,k<i->f k=0)->(∀k,i<k->k<n->f k=0)->aP f n=f i
 |n,h,z1,z2=>pv n h (fun k hk dX=>by rcases Nat.lt_or_gt_of_ne dX with q|q;exact z1 k q;exact z2 k q hk)
theorem Oy{p:Nat->Nat}{k:Nat}(h:∀i j,i<j->j<k->p i<p j){i j:Nat}(hi:i<k)(hj:j<k)(e:p i=p j):i=j:=by
 rcases Nat.lt_trichotomy i j with q|q|q
 ·have:=h i j q hj;omega
 ·exact q
 ·have:=h j i q hi;omega
end Go.Proofs.YtdpbiegfljmhmaaGreat.Ext
namespace Go.Proofs.YtdpbiegfljmhmaaGreat.Ext
def si:List Bool->Nat
 | []=>0
 |true :: I=>si I+1
 |false :: I=>si I
theorem A9:∀m,si (top m)=m
 |0=>rfl
 |m+1=>by show si (top m)+1=m+1;rw[A9 m]
theorem xu{a b:Int}{A B:Nat}(ha:a.natAbs<=A)(hb:b.natAbs<=B):(a*b).natAbs<=A*B:=by
 rw[Int.natAbs_mul];exact Nat.mul_le_mul ha hb
theorem xw:∀(m:Nat) (v:aQ) (w:Om) (I:List Bool) (B:Nat),(∀J,si J+1=si I->(w J).natAbs<=B)->(aX m v w I).natAbs<=vn m v*B
 |0,v,w,I,B,h=>by show(0:Int).natAbs<=_;simp
 |m+1,v,w,[],B,h=>by show(0:Int).natAbs<=_;simp
 |m+1,v,w,false :: I,B,h=>by
  have:=xw m v (fun J=>w (false :: J)) I B (fun J hJ=>h (false :: J) hJ);show(aX m v (fun J=>w (false :: J)) I).natAbs<=(vn m v+(v m).natAbs)*B;rw[Nat.add_mul];omega
 |m+1,v,w,true :: I,B,h=>by
  have h1:=xw m v (fun J=>w (true :: J)) I B (fun J hJ=>h (true :: J) (by show si J+1+1=si I+1;omega));have h2:(v m*w (false :: I)).natAbs<=(v m).natAbs*B:=xu (Nat.le_refl _) (h (false :: I) rfl);show(v m*w (false :: I)-aX m v (fun J=>w (true :: J)) I).natAbs<=(vn m v+(v m).natAbs)*B;rw[Nat.add_mul];omega
theorem tZ:∀(m:Nat) (v:aQ) (w:Om) (I:List Bool) (M B:Nat),(∀i,i<m->(v i).natAbs<=M)->(∀J,si J+1=si I->(w J).natAbs<=B)->(aX m v w I).natAbs<=si I*(M*B)
 |0,v,w,I,M,B,_,_=>by show(0:Int).natAbs<=_;simp
 |m+1,v,w,[],M,B,_,_=>by show(0:Int).natAbs<=_;simp
 |m+1,v,w,false :: I,M,B,hv,h=>tZ m v (fun J=>w (false :: J)) I M B (fun i hi=>hv i om) (fun J hJ=>h (false :: J) hJ)
 |m+1,v,w,true :: I,M,B,hv,h=>by
  have h1:=tZ m v (fun J=>w (true :: J)) I M B (fun i hi=>hv i om) (fun J hJ=>h (true :: J) (by show si J+1+1=si I+1;omega));have h2:(v m*w (false :: I)).natAbs<=M*B:=xu (hv m om) (h (false :: I) rfl);show(v m*w (false :: I)-aX m v (fun J=>w (true :: J)) I).natAbs<=(si I+1)*(M*B);rw[Nat.add_mul];omega
def sQ:Nat->Nat->Nat
 |_,0=>1
 |c,k+1=>c*sQ (c-1) k
theorem xz{m:Nat}{W:Nat->aQ}{M:Nat}:∀(k:Nat),(∀y,y<k->∀i,i<m->(W y i).natAbs<=M)->∀I,(prod m W k I).natAbs<=sQ (si I) k*M ^ k
 |0,_,I=>by
  show(unit I).natAbs<=1*1;unfold unit;split<;>simp
 |k+1,h,I=>by
  have:=tZ m (W k) (prod m W k) I M (sQ (si I-1) k*M ^ k) (h k om) (fun J hJ=>by
   have:=xz k (fun y hy=>h y om) J;rw[show si I-1=si J by omega];exact this)
  show(aX m (W k) (prod m W k) I).natAbs<=si I*sQ (si I-1) k*M ^ (k+1);rw[Nat.pow_succ];have e:si I*(M*(sQ (si I-1) k*M ^ k))=si I*sQ (si I-1) k*(M ^ k*M):=by
   rw[Nat.mul_comm M,Nat.mul_assoc,Nat.mul_assoc]
  omega
theorem xC{m n:Nat}{W:Nat->aQ}{i k:Nat}(hi:i<n)(hk:k<n)(dX:i≠k)(e:∀r,r<m->W i r=W k r):prod m W n=fun _=>0:=by
 have one:∀{i k:Nat},i<n->k<i->(∀r,r<m->W i r=W k r)->prod m W n=fun _=>0:=by
  intro i k hi hk e;have h:prod m W (i+1)=fun _=>0:=by
   funext I
   show aX m (W i) (prod m W i) I=0;rw[mf m _ I e,show i=k+1+(i-(k+1)) by omega];exact xk _ I
  have:=z8 h (n-(i+1));rw[show i+1+(n-(i+1))=n by omega]at this;exact this
 rcases Nat.lt_or_gt_of_ne dX with q|q
 ·exact one hk q (fun r hr=>(e r hr).symm)
 ·exact one hi q e
theorem px{m n:Nat}{W:Nat->aQ}{i:Nat}(hi:i<n)(a b:aQ)(x y:Int)(I:List Bool):prod m (put W i (fun r=>x*a r+y*b r)) n I=x*prod m (put W i a) n I+y*prod m (put W i b) n I:=by
 have:=C4 (m:=m) (W:=W) (i:=i) (a:=a) (b:=b) (x:=x) (y:=y) (n-(i+1));rw[show i+1+(n-(i+1))=n by omega]at this;rw[this]
theorem IC{m n:Nat}{W:Nat->aQ}{i:Nat}(hi:i<n)(hz:∀r,r<m->W i r=0)(I:List Bool):prod m W n I=0:=by
 have:=px (m:=m) (W:=W) hi (W i) (W i) 0 0 I;rw[fL (W:=put W i (fun r=>0*W i r+0*W i r)) (V:=W) n (fun j hj r hr=>by
  unfold put;split
  ·rename_i e;rw[e];show 0*W i r+0*W i r=W i r;rw[hz r hr];rfl
  ·rfl)]at this
 omega
theorem KQ{m n:Nat}{W:Nat->aQ}{r y:Nat}(hr:r<n)(hy:y<n)(dX:r≠y)(t:Int)(I:List Bool):prod m (put W r (fun j=>W r j-t*W y j)) n I=prod m W n I:=by
 have e:(fun j=>W r j-t*W y j)=(fun j=>1*W r j+(-t)*W y j):=by funext j;rw[Int.neg_mul];omega
 rw[e,px hr,jj,xC (W:=put W r (W y)) hr hy dX (fun j _=>by unfold put;rw[if_pos rfl,if_neg om])];show 1*prod m W n I + -t*0=prod m W n I;omega
theorem nJ{W:Nat->aQ}{i k:Nat}(h:i≠k)(a b:aQ):put (put W i a) k b=put (put W k b) i a:=by
 funext j;unfold put
 by_cases h1:j=k
 ·rw[if_pos h1]
  by_cases h2:j=i
  ·omega
  ·rw[if_neg h2,if_pos h1]
 ·rw[if_neg h1]
  by_cases h2:j=i
  ·rw[if_pos h2,if_pos h2]
  ·rw[if_neg h2,if_neg h2,if_neg h1]
theorem jk{W:Nat->aQ}{i:Nat}(a b:aQ):put (put W i a) i b=put W i b:=by
 funext j;unfold put;split<;>rfl
theorem ID{m n:Nat}{W:Nat->aQ}{i k:Nat}(hi:i<n)(hk:k<n)(dX:i≠k)(I:List Bool):prod m (put (put W i (W k)) k (W i)) n I=-prod m W n I:=by
 let P:aQ->aQ->Int:=fun a b=>prod m (put (put W i a) k b) n I
 have two:∀a,P a a=0:=fun a=>by
  show prod m (put (put W i a) k a) n I=0;rw[xC (W:=put (put W i a) k a) hi hk dX (fun r _=>by unfold put;rw[if_neg dX,if_pos rfl,if_pos rfl])]
 have Yw:∀a a' b,P (fun r=>1*a r+1*a' r) b=1*P a b+1*P a' b:=fun a a' b=>by
  show prod m (put (put W i _) k b) n I=_;rw[nJ dX,px hi,<-nJ dX,<-nJ dX]
 have UQ:∀a b b',P a (fun r=>1*b r+1*b' r)=1*P a b+1*P a b':=fun a b b'=>px hk _ _ _ _ _
 have h:=two (fun r=>1*W i r+1*W k r);rw[Yw,UQ,UQ,two,two]at h;have e1:P (W i) (W k)=prod m W n I:=by
  show prod m (put (put W i (W i)) k (W k)) n I=_;rw[jj,jj]
 have e2:P (W k) (W i)=prod m (put (put W i (W k)) k (W i)) n I:=rfl;omega
theorem KR{m n:Nat}{W:Nat->aQ}{i:Nat}(hi:i<n)(I:List Bool):prod m (put W i (fun r=>-(W i r))) n I=-prod m W n I:=by
 have e:(fun r=>-(W i r))=(fun r=>(-1)*W i r+0*W i r):=by funext r;omega
 rw[e,px hi,jj];omega
def rv(k:Nat)(F:Nat->aQ)(J:Nat->Nat):Nat->aQ:=fun y i=>F (k-1-y) (J i)
structure kM(w k:Nat)(F F0:Nat->aQ):Prop where
 le:∀i,i<k->Sp w k F0 (F i)
 ge:∀i,i<k->Sp w k F (F0 i)
 IE:∃s:Int,(s=1\/s=-1)/\∀d J I,prod d (rv k F J) k I=s*prod d (rv k F0 J) k I
theorem kM.abs{w k:Nat}{F F0:Nat->aQ}(h:kM w k F F0)(d:Nat)(J:Nat->Nat)(I:List Bool):(prod d (rv k F J) k I).natAbs=(prod d (rv k F0 J) k I).natAbs:=by
 obtain⟨s,hs,e⟩:=h.IE;have:=e d J I;rcases hs with rfl|rfl<;>omega
theorem kM.refl(w k:Nat)(F:Nat->aQ):kM w k F F:=⟨fun i hi=>Sp.row F hi,fun i hi=>Sp.row F hi,1,.inl rfl,fun _ _ _=>(Int.one_mul _).symm⟩
theorem kM.trans{w k:Nat}{F F1 F0:Nat->aQ}(h:kM w k F F1)(h0:kM w k F1 F0):kM w k F F0:=by
 obtain⟨s,hs,e⟩:=h.IE;obtain⟨s0,UR,e0⟩:=h0.IE;refine⟨fun i hi=>Sp.le h0.le (h.le i hi),fun i hi=>Sp.le h.ge (h0.ge i hi),s*s0,?_,fun d J I=>by rw[e,e0,Int.mul_assoc]⟩;rcases hs with rfl|rfl<;>rcases UR with rfl|rfl<;>simp
theorem KS{k:Nat}{F:Nat->aQ}{J:Nat->Nat}{r:Nat}(hr:r<k)(v:aQ):∀y,y<k->∀i,rv k (put F r v) J y i=put (rv k F J) (k-1-r) (fun i=>v (J i)) y i:=by
 intro y hy i;unfold rv put;by_cases e:k-1-y=r
 ·rw[if_pos e,if_pos om]
 ·rw[if_neg e,if_neg om]
theorem kM.sub{w k:Nat}{F:Nat->aQ}{r y:Nat}(hr:r<k)(hy:y<k)(dX:r≠y)(t:Int):kM w k (put F r (fun j=>F r j-t*F y j)) F:=by
 have hp:∀i,i≠r->put F r (fun j=>F r j-t*F y j) i=F i:=fun i hi=>by unfold put;rw[if_neg hi]
 have hq:put F r (fun j=>F r j-t*F y j) r=fun j=>F r j-t*F y j:=by unfold put;rw[if_pos rfl]
 refine⟨fun i hi=>?_,fun i hi=>?_,1,.inl rfl,fun d J I=>?_⟩
 ·by_cases e:i=r
  ·subst e;rw[hq]
   exact((Sp.row F hr).comb 1 (-t) (Sp.row F hy)).congr (fun j _=>by rw[Int.neg_mul];omega)
  ·rw[hp i e];exact Sp.row F hi
 ·by_cases e:i=r
  ·subst e
   have h1:=Sp.row (w:=w) (put F i (fun j=>F i j-t*F y j)) hr;have h2:=Sp.row (w:=w) (put F i (fun j=>F i j-t*F y j)) hy;rw[hq]at h1;rw[hp y om]at h2;exact(h1.comb 1 t h2).congr (fun j _=>om)
  ·have:=Sp.row (w:=w) (put F r (fun j=>F r j-t*F y j)) hi
   rw[hp i e]at this;exact this
 ·rw[fL k (fun y hy i _=>KS hr _ y hy i)]
  have:=KQ (m:=d) (n:=k) (W:=rv k F J) (r:=k-1-r) (y:=k-1-y) om om om t I;have e1:(fun i=>rv k F J (k-1-r) i-t*rv k F J (k-1-y) i)=fun i=>F r (J i)-t*F y (J i):=by
   funext i;unfold rv;rw[show k-1-(k-1-r)=r by omega,show k-1-(k-1-y)=y by omega]
  rw[e1]at this;rw[this,Int.one_mul]
def NQ(F:Nat->aQ)(a b:Nat):Nat->aQ:=put (put F a (F b)) b (F a)
theorem kM.swap{w k:Nat}{F:Nat->aQ}{a b:Nat}(ha:a<k)(hb:b<k):kM w k (NQ F a b) F:=by
 by_cases dX:a=b
 ·subst dX;unfold NQ;rw[jj,jj];exact .refl _ _ _
 have hv:∀i,NQ F a b i=if i=b then F a else if i=a then F b else F i:=fun i=>rfl
 refine⟨fun i hi=>?_,fun i hi=>?_,-1,.inr rfl,fun d J I=>?_⟩
 ·rw[hv];split
  ·exact Sp.row F ha
  ·split
   ·exact Sp.row F hb
   ·exact Sp.row F hi
 ·by_cases e:i=a
  ·have:=Sp.row (w:=w) (NQ F a b) hb
   rw[hv,if_pos rfl]at this;rw[e];exact this
  ·by_cases e2:i=b
   ·have:=Sp.row (w:=w) (NQ F a b) ha
    rw[hv,if_neg dX,if_pos rfl]at this;rw[e2];exact this
   ·have:=Sp.row (w:=w) (NQ F a b) hi
    rw[hv,if_neg e2,if_neg e]at this;exact this
 ·have e:∀y,y<k->∀i,i<d->rv k (NQ F a b) J y i=put (put (rv k F J) (k-1-a) (rv k F J (k-1-b))) (k-1-b) (rv k F J (k-1-a)) y i:=by
   intro y hy i _;show NQ F a b (k-1-y) (J i)=(if y=k-1-b then rv k F J (k-1-a)else if y=k-1-a then rv k F J (k-1-b)else rv k F J y) i;rw[hv];by_cases e1:k-1-y=b
   ·rw[if_pos e1,if_pos (show y=k-1-b by omega)]
    unfold rv;rw[show k-1-(k-1-a)=a by omega]
   ·rw[if_neg e1,if_neg (show ¬y=k-1-b by omega)]
    by_cases e2:k-1-y=a
    ·rw[if_pos e2,if_pos (show y=k-1-a by omega)]
     unfold rv;rw[show k-1-(k-1-b)=b by omega]
    ·rw[if_neg e2,if_neg (show ¬y=k-1-a by omega)];rfl
  rw[fL k e,ID om om om];omega
theorem kM.neg{w k:Nat}{F:Nat->aQ}{r:Nat}(hr:r<k):kM w k (put F r (fun j=>-(F r j))) F:=by
 have hp:∀i,i≠r->put F r (fun j=>-(F r j)) i=F i:=fun i hi=>by unfold put;rw[if_neg hi]
 have hq:put F r (fun j=>-(F r j)) r=fun j=>-(F r j):=by unfold put;rw[if_pos rfl]
 refine⟨fun i hi=>?_,fun i hi=>?_,-1,.inr rfl,fun d J I=>?_⟩
 ·by_cases e:i=r
  ·subst e;rw[hq]
   exact((Sp.row F hr).comb (-1) 0 (Sp.row F hr)).congr (fun j _=>om)
  ·rw[hp i e];exact Sp.row F hi
 ·by_cases e:i=r
  ·subst e
   have h1:=Sp.row (w:=w) (put F i (fun j=>-(F i j))) hr;rw[hq]at h1;exact(h1.comb (-1) 0 h1).congr (fun j _=>om)
  ·have:=Sp.row (w:=w) (put F r (fun j=>-(F r j))) hi
   rw[hp i e]at this;exact this
 ·rw[fL k (fun y hy i _=>KS hr _ y hy i)]
  have:=KR (m:=d) (n:=k) (W:=rv k F J) (i:=k-1-r) om I;have e1:(fun i=>-(rv k F J (k-1-r) i))=fun i=>-(F r (J i)):=by
   funext i;unfold rv;rw[show k-1-(k-1-r)=r by omega]
  rw[e1]at this;rw[this];omega
theorem kM.of_eq{w k:Nat}{F G:Nat->aQ}(e:∀i,i<k->F i=G i):kM w k F G:=by
 refine⟨fun i hi=>by rw[e i hi];exact Sp.row G hi,fun i hi=>by rw[<-e i hi];exact Sp.row F hi,1,.inl rfl,fun d J I=>?_⟩;rw[fL k (V:=rv k G J) (fun y hy i _=>by unfold rv;rw[e _ om]),Int.one_mul]
def KT(v:aQ)(W:Nat->aQ):Nat->aQ:=fun y=>match y with|0=>v|y+1=>W y
theorem C6:∀k:Nat,∃t:Int,∀(d:Nat) (v:aQ) (W:Nat->aQ),prod d (KT v W) (k+1)=fun I=>t*aX d v (prod d W k) I
 |0=>⟨1,fun d v W=>by funext I;show aX d v unit I=1*aX d v unit I;omega⟩
 |k+1=>by
  obtain⟨t,h⟩:=C6 k;refine⟨-t,fun d v W=>?_⟩
  funext I
  show aX d (W k) (prod d (KT v W) (k+1)) I=-t*aX d v (aX d (W k) (prod d W k)) I;rw[h d v W];have:=iQ d (W k) t 0 (aX d v (prod d W k)) (fun _=>0) I;have e:(fun J=>t*aX d v (prod d W k) J+0*(fun _=>(0:Int)) J)=fun J=>t*aX d v (prod d W k) J:=by funext J;omega
  rw[e]at this;rw[this,xj,Int.neg_mul,Int.mul_neg];omega
theorem Sp.more{w k:Nat}{F:Nat->aQ}{v u:aQ}(h:Sp w k F v):Sp w (k+1) (put F k u) v:=by
 obtain⟨y,hy⟩:=h;refine⟨fun i=>if i=k then 0 else y i,fun j hj=>?_⟩;show v j=aP (fun i=>(if i=k then 0 else y i)*put F k u i j) k+(if k=k then 0 else y k)*put F k u k j;have e:aP (fun i=>(if i=k then 0 else y i)*put F k u i j) k=aP (fun i=>y i*F i j) k:=aT k (fun i hi=>by
  show(if i=k then 0 else y i)*(if i=k then u else F i) j=y i*F i j;rw[if_neg om,if_neg om])
 rw[if_pos rfl,hy j hj,e];omega
theorem kM.more{w k:Nat}{F F0:Nat->aQ}(h:kM w k F F0)(v:aQ):kM w (k+1) (put F k v) (put F0 k v):=by
 have hp:∀(F:Nat->aQ) i,i≠k->put F k v i=F i:=fun F i hi=>by unfold put;rw[if_neg hi]
 have hq:∀(F:Nat->aQ),put F k v k=v:=fun F=>by unfold put;rw[if_pos rfl]
 have hr:∀(F:Nat->aQ) J y,y<k+1->∀i,rv (k+1) (put F k v) J y i=KT (fun i=>v (J i)) (rv k F J) y i:=fun F J y hy i=>by
  cases y with
  |zero=>unfold rv;rw[show k+1-1-0=k by omega,hq];rfl
  |succ y=>unfold rv;rw[hp F _ om,show k+1-1-(y+1)=k-1-y by omega];rfl
 obtain⟨s,hs,e⟩:=h.IE;obtain⟨t,ht⟩:=C6 k;refine⟨fun i hi=>?_,fun i hi=>?_,s,hs,fun d J I=>?_⟩
 ·by_cases c:i=k
  ·subst c
   have:=Sp.row (w:=w) (put F0 i v) (show i<i+1 by omega);rw[hq]at this;rw[hq];exact this
  ·rw[hp F i c];exact(h.le i om).more
 ·by_cases c:i=k
  ·subst c
   have:=Sp.row (w:=w) (put F i v) (show i<i+1 by omega);rw[hq]at this;rw[hq];exact this
  ·rw[hp F0 i c];exact(h.ge i om).more
 ·rw[fL (k+1) (fun y hy i _=>hr F J y hy i),fL (k+1) (fun y hy i _=>hr F0 J y hy i),ht,ht]
  have e1:prod d (rv k F J) k=fun I=>s*prod d (rv k F0 J) k I:=by funext I;exact e d J I
  rw[e1];have:=iQ d (fun i=>v (J i)) s 0 (prod d (rv k F0 J) k) (fun _=>0) I;have e2:(fun K=>s*prod d (rv k F0 J) k K+0*(fun _=>(0:Int)) K)=fun K=>s*prod d (rv k F0 J) k K:=by funext K;omega
  rw[e2]at this;show t*aX d (fun i=>v (J i)) (fun I=>s*prod d (rv k F0 J) k I) I=s*(t*aX d (fun i=>v (J i)) (prod d (rv k F0 J) k) I);rw[this,Int.zero_mul,Int.add_zero,<-Int.mul_assoc,<-Int.mul_assoc,Int.mul_comm t s]
def fY(f:Nat->Int):Nat->Int
 |0=>1
 |k+1=>fY f k*f k
theorem G1{m:Nat}{W:Nat->aQ}:∀k,k<=m->(∀y,y<k->∀i,y<i->i<m->W y i=0)->prod k W k (top k)=fY (fun y=>W y y) k
 |0,_,_=>rfl
 |k+1,hk,h=>by
  obtain⟨h1,h2⟩:=xq (m:=k) (W:=W) k (fun j hj=>h j om k hj om);have e2:(fun J=>prod (k+1) W k (true :: J))=fun _=>0:=funext h2
  show W k k*prod (k+1) W k (false :: top k)-aX k (W k) (fun J=>prod (k+1) W k (true :: J)) (top k)=fY (fun y=>W y y) k*W k k;rw[e2,iI,h1,G1 k om (fun y hy i h3 h4=>h y om i h3 h4)];rw[Int.mul_comm];omega
theorem xD{m:Nat}{W:Nat->aQ}:∀(k:Nat) (I:List Bool),prod (m+1) W k (false :: I)=prod m W k I
 |0,I=>rfl
 |k+1,I=>by
  have e:(fun J=>prod (m+1) W k (false :: J))=prod m W k:=funext (xD k);show aX m (W k) (fun J=>prod (m+1) W k (false :: J)) I=aX m (W k) (prod m W k) I;rw[e]
theorem py{f g:Nat->Int}:∀k,(∀i,i<k->f i=g i)->fY f k=fY g k
 |0,_=>rfl
 |k+1,h=>by show fY f k*f k=fY g k*g k;rw[py k (fun i hi=>h i om),h k om]
theorem ua{f:Nat->Int}:∀k,(∀i,i<k->0<f i)->0<fY f k
 |0,_=>by show(0:Int)<1;omega
 |k+1,h=>Int.mul_pos (ua k (fun i hi=>h i om)) (h k om)
theorem C7{f:Nat->Int}:∀k,(∀i,i<k->0<f i)->∀i,i<k->f i<=fY f k
 |0,_,i,hi=>om
 |k+1,h,i,hi=>by
  have p1:=ua k (fun i hi=>h i om);have p2:=h k om;show f i<=fY f k*f k;by_cases e:i=k
  ·subst e
   have:=Int.mul_le_mul_of_nonneg_right (show(1:Int)<=fY f i by omega) (Int.le_of_lt p2);omega
  ·have h1:=C7 k (fun i hi=>h i om) i om
   have:=Int.mul_le_mul_of_nonneg_left (show(1:Int)<=f k by omega) (Int.le_of_lt p1);omega
theorem IF(f:Nat->Int):∀k,fY (fun i=>f (k-1-i)) k=fY f k:=by
 have shift:∀k (g:Nat->Int),fY g (k+1)=g 0*fY (fun i=>g (i+1)) k:=fun k=>by
  induction k with
  |zero=>intro g;show 1*g 0=g 0*1;omega
  |succ k ih=>intro g;show fY g (k+1)*g (k+1)=g 0*(fY (fun i=>g (i+1)) k*g (k+1));rw[ih,Int.mul_assoc]
 intro k
 induction k with
 |zero=>rfl
 |succ k ih=>
  rw[shift];show f (k+1-1-0)*fY (fun i=>f (k+1-1-(i+1))) k=fY f k*f k;rw[py k (g:=fun i=>f (k-1-i)) (fun i hi=>by rw[show k+1-1-(i+1)=k-1-i by omega]),ih,Int.mul_comm];rfl
def lQ(w k:Nat)(F:Nat->aQ)(j:Nat):Nat->Nat:=fun i=>if i<k then aj w (F (k-1-i))else j
theorem G3{w k:Nat}{F:Nat->aQ}(h:A8 w k F)(j:Nat):prod k (rv k F (lQ w k F j)) k (top k)=fY (fun i=>F i (aj w (F i))) k:=by
 rw[G1 (m:=k) k (Nat.le_refl _) (fun y hy i h1 h2=>?_),<-IF (fun i=>F i (aj w (F i)))]
 ·refine py k (fun i hi=>?_)
  show F (k-1-i) (lQ w k F j i)=F (k-1-i) (aj w (F (k-1-i)));unfold lQ;rw[if_pos hi]
 ·unfold rv lQ
  rw[if_pos h2];exact bz (h.inc _ _ om om)
theorem Qs{k M:Nat}{F0:Nat->aQ}{w:Nat}(hM:∀i,i<k->∀j,(F0 i j).natAbs<=M)(J:Nat->Nat):∀y,y<k->∀i,(rv k F0 J y i).natAbs<=M:=fun y hy i=>hM _ om _
theorem kM.leads{w k M:Nat}{F F0:Nat->aQ}(h:A8 w k F)(l:kM w k F F0)(hM:∀i,i<k->∀j,(F0 i j).natAbs<=M):fY (fun i=>F i (aj w (F i))) k<=(sQ k k*M ^ k:Nat):=by
 have h1:=l.abs k (lQ w k F 0) (top k);rw[G3 h]at h1;have h2:=xz (m:=k) (W:=rv k F0 (lQ w k F 0)) (M:=M) k (fun y hy i _=>Qs (w:=w) hM _ y hy i) (top k);rw[A9,<-h1]at h2;omega
theorem KU{v:aQ}{f:Nat->Int}{D:Nat}:∀m,(∀i,i<m->(v i).natAbs<=D)->vn m v<=m*D
 |0,_=>by show 0<=_;omega
 |m+1,h=>by
  have:=KU (v:=v) (f:=f) (D:=D) m (fun i hi=>h i om);have:=h m om;show vn m v+(v m).natAbs<=(m+1)*D;rw[Nat.add_mul];omega
theorem kM.bound{w k M:Nat}{F F0:Nat->aQ}(h:A8 w k F)(l:kM w k F F0)(hM:∀i,i<k->∀j,(F0 i j).natAbs<=M){r:Nat}(hr:r<k)(hb:∀i,i<k->(F r (aj w (F i))).natAbs<=(F i (aj w (F i))).natAbs)(j:Nat):(F r j).natAbs<=k*(sQ k k*M ^ k):=by
 have hD:0<fY (fun i=>F i (aj w (F i))) k:=ua k h.pos;obtain⟨D,eD⟩:∃D:Nat,fY (fun i=>F i (aj w (F i))) k=D:=⟨(fY (fun i=>F i (aj w (F i))) k).toNat,om⟩;have h0:aX (k+1) (rv k F (lQ w k F j) (k-1-r)) (prod (k+1) (rv k F (lQ w k F j)) k) (true :: top k)=0:=by
  have:=xk (m:=k+1) (W:=rv k F (lQ w k F j)) (k:=k-1-r) r (true :: top k);rw[show k-1-r+1+r=k by omega]at this;exact this
 have h1:rv k F (lQ w k F j) (k-1-r) k*prod (k+1) (rv k F (lQ w k F j)) k (false :: top k)-aX k (rv k F (lQ w k F j) (k-1-r)) (fun J=>prod (k+1) (rv k F (lQ w k F j)) k (true :: J)) (top k)=0:=h0;rw[xD,G3 h,eD]at h1;have e1:rv k F (lQ w k F j) (k-1-r) k=F r j:=by unfold rv lQ;rw[if_neg om,show k-1-(k-1-r)=r by omega]
 rw[e1]at h1;have h2:=xw k (rv k F (lQ w k F j) (k-1-r)) (fun J=>prod (k+1) (rv k F (lQ w k F j)) k (true :: J)) (top k) (sQ k k*M ^ k) (fun J hJ=>by
  rw[l.abs];have:=xz (m:=k+1) (W:=rv k F0 (lQ w k F j)) (M:=M) k (fun y hy i _=>Qs (w:=w) hM _ y hy i) (true :: J);rw[show si (true :: J)=k by rw[<-A9 k,<-hJ];rfl]at this;exact this)
 have h3:vn k (rv k F (lQ w k F j) (k-1-r))<=k*D:=KU (f:=fun _=>0) k (fun i hi=>by
  unfold rv lQ;rw[if_pos hi,show k-1-(k-1-r)=r by omega];have q1:=hb (k-1-i) om;have q2:=C7 k h.pos (k-1-i) om;have q3:=h.pos (k-1-i) om;rw[eD]at q2;omega)
 generalize aX k (rv k F (lQ w k F j) (k-1-r)) (fun J=>prod (k+1) (rv k F (lQ w k F j)) k (true :: J)) (top k)=W at h1 h2;have h4:(F r j).natAbs*D=W.natAbs:=by rw[show W=F r j*D by omega,Int.natAbs_mul];rfl
 have h5:(F r j).natAbs*D<=k*(sQ k k*M ^ k)*D:=by
  rw[h4];refine Nat.le_trans h2 (Nat.le_trans (Nat.mul_le_mul_right _ h3) ?_);rw[Nat.mul_assoc,Nat.mul_comm D,<-Nat.mul_assoc];exact Nat.le_refl _
 exact Nat.le_of_mul_le_mul_right h5 om
theorem kM.ne{w k d:Nat}{F F0:Nat->aQ}(l:kM w k F F0){J:Nat->Nat}{I:List Bool}(hJ:∀i,i<d->J i<w)(h:prod d (rv k F0 J) k I≠0){r:Nat}(hr:r<k):aj w (F r)<w:=by
 rcases Nat.lt_or_ge (aj w (F r)) w with c|c
 ·exact c
 ·exfalso
  have h1:=l.abs d J I;rw[IC (W:=rv k F J) (i:=k-1-r) om (fun i hi=>by
   unfold rv;rw[show k-1-(k-1-r)=r by omega];exact bz (w:=w) (by have:=hJ i hi;omega))]at h1
  omega
end Go.Proofs.YtdpbiegfljmhmaaGreat.Ext
namespace Go.cS
open Go.RowKit
def kq:af:={ next:=0,low:=0,m:=.leaf }
def pz:Option (Value×af)->Bool
 |some (.bool true,_)=>true
 |_=>false
theorem zr{r:Option (Value×af)}(h:pz r=true):∃h',r=some (.bool true,h'):=by
 unfold pz at h;split at h
 ·exact⟨_,rfl⟩
 ·cases h
theorem sH.calls{P : Program}{g : FuncId}{fn : Func}{args : Array Value}{w : World}{R : Value → World → Prop}(h : sH P g args w R)(hf : P.funcs[g]? = some fn)(hb : fn.body.isSome = true)(cE : (fn.name == "runtime.NumGoroutine") = false) :
  Calls P g args w (fun e w'=>∃c,e=.returned c/\R c w'):=by
 rcases h with ⟨_,h⟩|⟨c,w',h,_⟩
 ·exact h
 ·rw[gU hf hb cE]at h;simp at h
theorem Fu{P : Program}{call : cD}(hc : dx P call){g : FuncId}{fn : Func}(hf : P.funcs[g]? = some fn)(hb : fn.body.isSome = true)(cE : (fn.name == "runtime.NumGoroutine") = false)(h : pz (call g [] kq) = true)(w : World)(hg : g < aV := by decide) :
  Calls P g #[] w fun e w'=>e=.returned (.bool true)/\Below w.heap.size w w':=by
 obtain⟨h',he⟩:=zr h;have hR:HR ⟨fun _=>none,fun _=>none⟩ (im kq) w:=
  { cP:=(fun id L h=>by cases h),dg:=(fun id L h=>by cases h),cG:=(fun id L b h=>by cases h),dh:=(fun id oS L L' b b' h=>by cases h),eE:=(fun t L h=>by cases h),dS:=(fun t L h=>by cases h),eO:=(fun t t' L L' h=>by cases h),sep:=(fun id t L L' h=>by cases h) }
 have hd:=hc g [] kq _ h' he hg (fun _=>none) w [] hR (fF.nil _);refine(hd.calls hf hb cE).mono ?_;rintro e w' ⟨c,rfl,G',hv,hG,_⟩;rw[hv.bool];refine⟨rfl,hG.os,hG.tape,hG.output,hG.size,fun k hk=>hG.frame k hk (fun id L h=>by cases h) (fun t L h=>by cases h)⟩
end Go.cS
namespace Go.cS
theorem fF.G4{g:Nat->Option Loc}:∀{l l':List Value},fF g l l'->l.all bk=true->l'=l
 | [],l',h,_=>h.iL
 |u :: l,l',h,hf=>by
  obtain⟨v,l2,rfl,hv,hl⟩:=h.head;simp only[List.all_cons,Bool.and_eq_true]at hf;have e1:=fF.G4 hl hf.2;have e2:v=u:=by
   have hu:=hf.1;cases hv with
   |flat _ _=>rfl
   |zf=>simp[bk]at hu
   |ptr=>simp[bk]at hu
   |gG=>simp[bk]at hu
   |gR=>simp[bk]at hu
   |ko=>simp[bk]at hu
   |jC=>simp[bk]at hu
   |wH=>simp[bk]at hu
   |yield=>simp[bk]at hu
   |func=>simp[bk]at hu
   |agg=>simp[bk]at hu
   |tuple=>simp[bk]at hu
  rw[e1,e2]
def C8:Value->Bool
 | .tuple vs=>vs.toList.all bk
 |v=>bk v
theorem VG.KV{g:Nat->Option Loc}{v:Value}(h:C8 v=true):VG g v v:=by
 unfold C8 at h;split at h
 ·exact .tuple _ _ rfl (fF.flat h).2
 ·exact .flat _ h
def withFn(g0:FuncId)(f:List Value->Option Value)(F:aZ):aZ:=fun g args h=>
 bif Nat.beq g g0 && args.all bk then
  match f args with
  |some v=>bif C8 v then some (v,h)else none
  |none=>none
 else F g args h
theorem uV{g0:FuncId}{f:List Value->Option Value}{F:aZ}{g:FuncId}{args:List Value}{h h':af}{v:Value}(hc:withFn g0 f F g args h=some (v,h')) :
  (g=g0/\args.all bk=true/\f args=some v/\C8 v=true/\h'=h)\/F g args h=some (v,h'):=by
 unfold withFn at hc;cases hb:(Nat.beq g g0 && args.all bk)with
 |false=>rw[hb]at hc;exact .inr hc
 |true=>
  rw[hb]at hc;simp only[Bool.and_eq_true]at hb;simp only[cond_true]at hc;split at hc
  ·rename_i u hu
   cases hf:C8 u with
   |false=>rw[hf]at hc;simp at hc
   |true=>
    rw[hf]at hc;simp only[cond_true,oi,pj]at hc;obtain⟨rfl,rfl⟩:=hc;exact .inl ⟨Nat.eq_of_beq_eq_true hb.1,hb.2,hu,hf,rfl⟩
  ·cases hc
theorem z9{P:Program}{g0:FuncId}{f:List Value->Option Value}{F:aZ}(hf:∀(args:List Value) (v:Value) (w:World),f args=some v->(callFunc g0 args.toArray).run P w=.ok (.value v) w)(hF:dx P F):dx P (withFn g0 f F):=by
 intro g args h v h' hc hg G w aU hR hA;rcases uV hc with ⟨rfl,h1,h2,h3,rfl⟩|hc
 ·right
  rw[hA.G4 h1];exact⟨v,w,hf args v w h2,G,.KV h3,.refl hR,.refl _ _⟩
 ·exact hF g args h v h' hc hg G w aU hR hA
theorem uW{g0:FuncId}{f:List Value->Option Value}{F:aZ}(hF:aW F):aW (withFn g0 f F):=by
 intro g args h v h' hc;rcases uV hc with ⟨_,_,_,_,rfl⟩|hc
 ·exact .refl _ _
 ·exact hF g args h v h' hc
def xE:List Value->Option Value
 | [.int .u64 x,.int .u64 y,.int .u64 c]=>if 0<=x/\0<=y/\0<=c/\c<=1 then some (.tuple #[.int .u64 ((x+y+c) % 18446744073709551616),.int .u64 ((x+y+c) / 18446744073709551616)])else none
 |_=>none
def KW:Array Value->Sem Value:=fun args=>do
 let (x, y, b) ← Extern.MathBitsCarry.three "Sub64" args
 pure (Extern.MathBitsCarry.pair ((x+Extern.MathBitsCarry.m64-y-b) % Extern.MathBitsCarry.m64) (if x<y+b then 1 else 0))
def uc:List Value->Option Value
 | [.int .u64 x,.int .u64 y,.int .u64 b]=>if 0<=x/\0<=y/\0<=b/\b<=1 then some (.tuple #[.int .u64 (Int.ofNat ((x.toNat+18446744073709551616-y.toNat-b.toNat) % 18446744073709551616)),.int .u64 (Int.ofNat (if x.toNat<y.toNat+b.toNat then 1 else 0))])else none
 |_=>none
theorem sR{P : Program}{g : FuncId}{fn : Func}(hf : P.funcs[g]? = some fn)(cE : (fn.name == "runtime.NumGoroutine") = false)(hb : fn.body.isNone = true)(hn : Extern.findNext fn = none)(he : Extern.find fn = some add64Entry)
  (args:List Value) (v:Value) (w:World) (h:xE args=some v):(callFunc g args.toArray).run P w=.ok (.value v) w:=by
 unfold xE at h;split at h
 ·rename_i x y c
  split at h
  ·rename_i hc
   simp only[oi]at h;subst h;have:=run_callFunc_extern hf cE hb hn he #[.int .u64 x,.int .u64 y,.int .u64 c] w;rw[run_add64 x y c hc.1 hc.2.1 hc.2.2.1 hc.2.2.2]at this;exact this
  ·cases h
 ·cases h
theorem mQ{P : Program}{g : FuncId}{fn : Func}(hf : P.funcs[g]? = some fn)(cE : (fn.name == "runtime.NumGoroutine") = false)(hb : fn.body.isNone = true)(hn : Extern.findNext fn = none)(he : Extern.find fn = some KW)
  (args:List Value) (v:Value) (w:World) (h:uc args=some v):(callFunc g args.toArray).run P w=.ok (.value v) w:=by
 unfold uc at h;split at h
 ·rename_i x y b
  split at h
  ·rename_i hc
   simp only[oi]at h;subst h;have:=run_callFunc_extern hf cE hb hn he #[.int .u64 x,.int .u64 y,.int .u64 b] w;have key:(KW #[.int .u64 x,.int .u64 y,.int .u64 b]).run P w=.ok (.tuple #[.int .u64 (Int.ofNat ((x.toNat+18446744073709551616-y.toNat-b.toNat) % 18446744073709551616)),.int .u64 (Int.ofNat (if x.toNat<y.toNat+b.toNat then 1 else 0))]) w:=by
    have uP:b=0\/b=1:=om
    rcases uP with rfl|rfl<;>rfl
   rw[key]at this;exact this
  ·cases h
 ·cases h
end Go.cS
namespace Go.cS
open Go.RowKit
def mR(g0:FuncId)(F:aZ):aZ:=fun g args h=>
 bif Nat.beq g g0 && args.isEmpty then some (.bool true,h)else F g args h
theorem ri{g0:FuncId}{F:aZ}{g:FuncId}{args:List Value}{h h':af}{v:Value}(hc:mR g0 F g args h=some (v,h')) :
  (g=g0/\args=[]/\v=.bool true/\h'=h)\/F g args h=some (v,h'):=by
 unfold mR at hc;cases hb:(Nat.beq g g0 && args.isEmpty)with
 |false=>rw[hb]at hc;exact .inr hc
 |true=>
  rw[hb]at hc;simp only[Bool.and_eq_true,List.isEmpty_iff]at hb;simp only[cond_true,oi,pj]at hc;exact .inl ⟨Nat.eq_of_beq_eq_true hb.1,hb.2,hc.1.symm,hc.2.symm⟩
theorem Good.grown {G : Nat → Option Loc} {h : af} {w w' : World} (hR : HR ⟨G, fun _ => none⟩ (im h) w) (b : Below w.heap.size w w') : Good ⟨G, fun _ => none⟩ (im h) w ⟨G, fun _ => none⟩ (im h) w' := by
  have dR : ∀ id L, G id = some L → L.b < w.heap.size := fun id L hL => by
    obtain ⟨o, h1, _⟩ := hR.dg id L hL
    exact (Array.getElem?_eq_some_iff.1 h1).1
  exact
    { hr :=
        { cP := hR.cP
          dg := fun id L hL => by
            rw [b.block _ (dR id L hL)]; exact hR.dg id L hL
          cG := fun id L b1 hL hm => by
            rw [b.block _ (dR id L hL)]; exact hR.cG id L b1 hL hm
          dh := hR.dh
          eE := (fun t L h => by cases h), dS := (fun t L h => by cases h), eO := (fun t t' L L' h => by cases h), sep := (fun id t L L' _ h => by cases h) }
      mono := fun _ _ h => h
      next := Nat.le_refl _
      low := Nat.le_refl _
      size := b.size
      os := b.os
      tape := b.tape
      output := b.output
      fresh := fun id L h1 h2 => by rw [h2] at h1; cases h1
      cH := fun t L h1 => .inr ⟨t, L, h1, rfl⟩
      frame := fun k hk _ _ => b.block k hk }
theorem C9{P : Program}{g0 : FuncId}{F : aZ}{call : cD}(hc : dx P call){fn : Func}(hf : P.funcs[g0]? = some fn)(hb : fn.body.isSome = true)(cE : (fn.name == "runtime.NumGoroutine") = false)(hr : pz (call g0 [] kq) = true)(hF : dx P F) : dx P (mR g0 F) := by
 intro g args h v h' EC hg G w aU hR hA;rcases ri EC with ⟨rfl,rfl,rfl,rfl⟩|EC
 ·left
  rw[hA.iL];refine⟨gU hf hb cE,(Fu hc hf hb cE hr w hg).mono ?_⟩;rintro e w' ⟨rfl,G5⟩;exact⟨_,rfl,G,.flat _ rfl,.grown hR G5,.refl _ _⟩
 ·exact hF g args h v h' EC hg G w aU hR hA
theorem zt{g0:FuncId}{F:aZ}(hF:aW F):aW (mR g0 F):=by
 intro g args h v h' hc;rcases ri hc with ⟨_,_,_,rfl⟩|hc
 ·exact .refl _ _
 ·exact hF g args h v h' hc
end Go.cS
namespace Go.cS
def nK(c c':cD):Prop:=∀g args h r,c g args h=some r->c' g args h=some r
structure Da(r r':Rec):Prop where
 run:∀f nt c s x,r.run f nt c s=some x->r'.run f nt c s=some x
 loop:∀f nt c kn s x,r.loop f nt c kn s=some x->r'.loop f nt c kn s=some x
 call:nK r.call r'.call
variable{P:Program}{H:Hint}{F:aZ}
theorem uX{c c':cD}(h:nK c c'){k:Call}{s:St}{x:Value×St}(hx:jB c k s=some x):jB c' k s=some x:=by
 unfold jB at hx ⊢;split at hx
 ·rename_i g args hg
  split at hx
  ·rename_i v h1 hr
   rw[h _ _ _ _ hr];exact hx
  ·cases hx
 ·cases hx
theorem IG{c c':cD}(h:nK c c'){f:FuncId}{o:Oper}{s:St}{x:Value×St}(hx:rE P H c f o s=some x):rE P H c' f o s=some x:=by
 unfold rE at hx ⊢;split at hx
 ·exact uX h hx
 ·exact hx
theorem IH{c c':cD}(h:nK c c'){f:FuncId}{id tag:Nat}{o:Oper}{s:St}{x:Value×St}(hx:jx P H c f id tag o s=some x):jx P H c' f id tag o s=some x:=by
 unfold jx at hx ⊢;split at hx
 ·exact uX h hx
 ·exact hx
theorem qu{c c':cD}(h:nK c c'){f:FuncId}{nt:Nat}{ops:Array Oper}:∀(l:List Oper) (s s':St),lj P H c f nt ops l s=some s'->lj P H c' f nt ops l s=some s'
 | [],s,s',hx=>hx
 |o :: l,s,s',hx=>by
  simp only[lj]at hx ⊢;split at hx
  ·split at hx
   ·rename_i v s1 h1
    rw[IG h h1];simp only[];split at hx
    ·exact qu h l _ s' hx
    ·cases hx
   ·cases hx
  ·split at hx
   ·exact qu h l _ s' hx
   ·cases hx
  ·cases hx
theorem qv{c c':cD}(h:nK c c'){f:FuncId}{nt:Nat}{ops:Array Oper}{base aO:Nat}:∀(l:List Nat) (i:Nat) (s:St) (r:St×List (Nat×FP×Bool)),qN P H c f nt ops base aO l i s=some r->qN P H c' f nt ops base aO l i s=some r
 | [],i,s,r,hx=>hx
 |p :: l,i,s,r,hx=>by
  simp only[qN]at hx ⊢;split at hx
  ·cases hx
  ·split at hx
   ·split at hx
    ·rename_i v s1 h1
     rw[IH h h1];simp only[];split at hx
     ·split at hx
      ·rename_i r' il h2
       rw[qv h l _ _ _ h2];exact hx
      ·cases hx
     ·cases hx
    ·cases hx
   ·split at hx
    ·split at hx
     ·rename_i r' il h2
      rw[qv h l _ _ _ h2];exact hx
     ·cases hx
    ·cases hx
   ·cases hx
theorem Fv{c c':cD}(h:nK c c'){f:FuncId}{nt:Nat}{ops:Array Oper}{s s':St}(hx:qW P H c f nt ops s=some s'):qW P H c' f nt ops s=some s':=by
 unfold qW at hx ⊢;cases hd:nj ops (fQ ops)with
 |false=>rw[hd]at hx;cases hx
 |true=>
  rw[hd]at hx;simp only[cond_true]at hx ⊢;split at hx
  ·rename_i r il h1
   rw[qv h _ _ _ _ h1];exact hx
  ·cases hx
theorem Dc{c c':cD}(h:nK c c'){f:FuncId}{nt:Nat}{x:Operand}{ps:Array Tmp}{assign body:Code}{s:St}{r:Exit×St}(hx:oQ P c f nt x ps assign body s=some r):oQ P c' f nt x ps assign body s=some r:=by
 unfold oQ at hx ⊢;cases hn:(bA assign && bA body)with
 |false=>rw[hn]at hx;cases hx
 |true=>
  rw[hn]at hx;simp only[cond_true]at hx ⊢;split at hx
  ·rename_i g first captured he
   cases hb:(Nat.blt g aV && vL P g)with
   |false=>rw[hb]at hx;cases hx
   |true=>
    rw[hb]at hx;simp only[cond_true]at hx ⊢;split at hx
    ·rename_i v h2 hr
     simp only[h _ _ _ _ hr];exact hx
    ·cases hx
  ·cases hx
theorem Dd{run run':FuncId->Nat->Code->St->Option (Exit×St)}(h:∀f nt c s x,run f nt c s=some x->run' f nt c s=some x){y:Nat}{args:List Value}{hp:af}{r:Value×af}(hx:oR run y args hp=some r):oR run' y args hp=some r:=by
 unfold oR at hx ⊢;split at hx
 ·rename_i ni f nt env ps assign body hm
  cases hb:(Nat.beq args.length ps.length && ps.all (fun t=>Nat.blt t nt) && bA assign && bA body)with
  |false=>rw[hb]at hx;cases hx
  |true=>
   rw[hb]at hx;simp only[cond_true]at hx ⊢;split at hx
   ·rename_i s1 h1
    simp only[h _ _ _ _ _ h1];split at hx
    ·rename_i sz f1 NK ze NM kK sA Yt
     split at hx
     ·rename_i s2 h2;simp only[h _ _ _ _ _ h2];exact hx
     ·rename_i s2 h2;simp only[h _ _ _ _ _ h2];exact hx
     ·rename_i id s2 h2;simp only[h _ _ _ _ _ h2];exact hx
     ·cases hx
    ·cases hx
   ·cases hx
 ·cases hx
theorem II{r r':Rec}(h:Da r r')(f:FuncId)(nt:Nat)(c:Code)(s:St)(x:Exit×St)(hx:nk P H r f nt c s=some x):nk P H r' f nt c s=some x:=by
 unfold nk at hx ⊢;split at hx
 ·exact hx
 ·exact hx
 ·exact hx
 ·rename_i a b
  skip
  split at hx
  ·rename_i s1 ha
   rw[h.run _ _ _ _ _ ha];exact h.run _ _ _ _ _ hx
  ·rename_i hn
   rw[h.run _ _ _ _ _ hx];obtain⟨e,s1⟩:=x;cases e<;>first|rfl|exact absurd hx (hn _)
 ·skip
  split at hx
  ·exact h.run _ _ _ _ _ hx
  ·cases hx
 ·rename_i id b
  skip
  split at hx
  ·rename_i oS s1 hb
   rw[h.run _ _ _ _ _ hb];exact hx
  ·rename_i hn
   rw[h.run _ _ _ _ _ hx];obtain⟨e,s1⟩:=x;cases e<;>first|rfl|exact absurd hx (hn _ _)
 ·exact h.loop _ _ _ _ _ _ hx
 ·rename_i id ops draw
  skip
  cases draw with
  |true=>
   simp only[cond_true]at hx ⊢;split at hx
   ·rename_i s1 h1
    rw[Fv h.call h1];exact hx
   ·cases hx
  |false=>
   simp only[cond_false]at hx ⊢;split at hx
   ·rename_i s1 h1
    rw[qu h.call _ _ _ h1];exact hx
   ·cases hx
 ·exact Dc h.call hx
 ·cases hx
theorem Fw{r r':Rec}(h:Da r r')(f:FuncId)(nt:Nat)(c:Code)(kn:Nat)(s:St)(x:Exit×St)(hx:oT H r f nt c kn s=some x):oT H r' f nt c kn s=some x:=by
 unfold oT at hx ⊢;split at hx
 ·cases hx
 ·skip
  split at hx
  ·rename_i s2 hb
   rw[h.run _ _ _ _ _ hb];exact h.loop _ _ _ _ _ _ hx
  ·rename_i hn
   rw[h.run _ _ _ _ _ hx];obtain⟨e,s1⟩:=x;cases e<;>first|rfl|exact absurd hx (hn _)
theorem Fx{r r':Rec}(h:Da r r'):nK (ot P F r) (ot P F r'):=by
 intro g args hp x hx;unfold ot at hx ⊢;cases hy:Nat.ble aV g with
 |true=>rw[hy]at hx;exact Dd h.run hx
 |false=>
 rw[hy]at hx;simp only[cond_false]at hx ⊢;split at hx
 ·exact hx
 ·skip
  split at hx
  ·split at hx
   ·skip
    split at hx
    ·rename_i s1 h1;rw[h.run _ _ _ _ _ h1];exact hx
    ·rename_i s1 h1;rw[h.run _ _ _ _ _ h1];exact hx
    ·cases hx
   ·cases hx
  ·cases hx
theorem nL:∀n,Da (cB P H F n) (cB P H F (n+1))
 |0=>⟨fun f nt c s x h=>(by cases h),fun f nt c kn s x h=>(by cases h),fun g args h r hc=>(by cases hc)⟩
 |n+1=>⟨II (nL n),Fw (nL n),Fx (nL n)⟩
theorem jW{n m:Nat}(h:n<=m):Da (cB P H F n) (cB P H F m):=by
 induction h with
 |refl=>exact⟨fun _ _ _ _ _ h=>h,fun _ _ _ _ _ _ h=>h,fun _ _ _ _ h=>h⟩
 |step _ ih=>
  have:=nL (P:=P) (H:=H) (F:=F) ‹Nat›;exact⟨fun f nt c s x h=>this.run _ _ _ _ _ (ih.run _ _ _ _ _ h),fun f nt c kn s x h=>this.loop _ _ _ _ _ _ (ih.loop _ _ _ _ _ _ h),fun g args h r hc=>this.call _ _ _ _ (ih.call _ _ _ _ hc)⟩
def pA(P:Program)(H:Hint)(F:aZ)(f:FuncId)(nt:Nat)(c:Code)(s:St)(x:Exit)(s':St):Prop:=∃n,(cB P H F n).run f nt c s=some (x,s')
def Loop(P:Program)(H:Hint)(F:aZ)(f:FuncId)(nt:Nat)(c:Code)(kn:Nat)(s:St)(x:Exit)(s':St):Prop:=∃n,(cB P H F n).loop f nt c kn s=some (x,s')
def NR(P:Program)(H:Hint)(F:aZ)(g:FuncId)(args:List Value)(h:af)(v:Value)(h':af):Prop:=∃n,(cB P H F n).call g args h=some (v,h')
theorem pA.skip{f:FuncId}{nt:Nat}{s:St}:pA P H F f nt .skip s .normal s:=⟨1,rfl⟩
theorem pA.ret{f:FuncId}{nt:Nat}{s:St}:pA P H F f nt .ret s .ret s:=⟨1,rfl⟩
theorem pA.exit{f:FuncId}{nt:Nat}{s:St}{id:Nat}:pA P H F f nt (.exit id) s (.exit id) s:=⟨1,rfl⟩
theorem pA.seq{f:FuncId}{nt:Nat}{a b:Code}{s s1 s2:St}{x:Exit}(h1:pA P H F f nt a s .normal s1)(h2:pA P H F f nt b s1 x s2):pA P H F f nt (.seq a b) s x s2:=by
 obtain⟨n,h1⟩:=h1;obtain⟨m,h2⟩:=h2;refine⟨max n m+1,?_⟩;show nk P H (cB P H F (max n m)) f nt (.seq a b) s=_;unfold nk;simp only[(jW (Nat.le_max_left n m)).run _ _ _ _ _ h1];exact(jW (Nat.le_max_right n m)).run _ _ _ _ _ h2
theorem pA.RZ{f:FuncId}{nt:Nat}{a b:Code}{s s1:St}{x:Exit}(h1:pA P H F f nt a s x s1)(hx:x≠.normal):pA P H F f nt (.seq a b) s x s1:=by
 obtain⟨n,h1⟩:=h1;refine⟨n+1,?_⟩;show nk P H (cB P H F n) f nt (.seq a b) s=_;unfold nk;simp only[h1];cases x<;>first|rfl|exact absurd rfl hx
theorem pA.cond{f:FuncId}{nt:Nat}{y:Operand}{a b:Code}{s s1:St}{x:Exit}{t:Bool}(hc:bH s y=some (.bool t))(h:pA P H F f nt (bif t then a else b) s x s1):pA P H F f nt (.cond y a b) s x s1:=by
 obtain⟨n,h⟩:=h;refine⟨n+1,?_⟩;show nk P H (cB P H F n) f nt (.cond y a b) s=_;unfold nk;simp only[hc];exact h
theorem pA.block{f:FuncId}{nt id:Nat}{b:Code}{s s1:St}{x:Exit}(h:pA P H F f nt b s x s1):pA P H F f nt (.block id b) s (match x with | .exit oS=>bif Nat.beq oS id then .normal else .exit oS|x=>x) s1:=by
 obtain⟨n,h⟩:=h;refine⟨n+1,?_⟩;show nk P H (cB P H F n) f nt (.block id b) s=_;unfold nk;simp only[h];cases x with
 |exit oS=>simp only[];cases Nat.beq oS id<;>rfl
 |_=>rfl
theorem pA.loop{f:FuncId}{nt:Nat}{b:Code}{s s1:St}{x:Exit}(h:Loop P H F f nt b s.kn s x s1):pA P H F f nt (.loop b) s x s1:=by
 obtain⟨n,h⟩:=h;exact⟨n+1,h⟩
theorem NR.body{g:FuncId}{fn:Func}{c:Code}{args:List Value}{h h':af}{v:Value}{x:Exit}{s':St}(hF:F g args h=none)(hg:g<aV)(hf:P.funcs[g]?=some fn)(hb:fn.body=some c)
  (hr:pA P H F g fn.ntmps c { env:=fH args 0 .leaf,kn:=0,K:=.leaf,h:=h } x s') (hx:x=.normal\/x=.ret) (he:vp P fn s'=some (v,h')):NR P H F g args h v h':=by
 obtain⟨n,hr⟩:=hr;refine⟨n+1,?_⟩;show ot P F (cB P H F n) g args h=_;unfold ot;simp only[show Nat.ble aV g=false from fe hg,cond_false,hF,hf,hb,hr];rcases hx with rfl|rfl<;>exact he
theorem NR.ok(hm : P.follows .mixedOrders = true)(hF : dx P F)(Qr : aW F)(cE : ∀ (g : FuncId) (fn : Func), P.funcs[g]? = some fn → (fn.name == "runtime.NumGoroutine") = false){g : FuncId}{args : List Value}{h h' : af}{v : Value}(hr : NR P H F g args h v h')(hg : g < aV){G : Nat → Option Loc}{w : World}{aU : List Value}
  (hR:HR ⟨G,fun _=>none⟩ (im h) w) (hA:fF G args aU) :
  sH P g aU.toArray w (fun c w'=>∃G',VG G' v c/\Good ⟨G,fun _=>none⟩ (im h) w ⟨G',fun _=>none⟩ (im h') w'/\fD (h.next<=·) G G'):=by
 obtain⟨n,hr⟩:=hr;exact(sO hm hF Qr cE n).2.2.1 g args h v h' hr hg G w aU hR hA
