import Derived.Test.YtdpbiegfljmhmaaGreatSimC
import Derived.Below
import Derived.Laws.Externs
set_option linter.unusedSimpArgs false
set_option linter.unusedVariables false
namespace Go.Proofs.YtdpbiegfljmhmaaGreat.Ext
abbrev aR:=Nat->Int
abbrev Om:=List Bool->Int
def aY:Nat->aR->Om->Om
 |0,_,_,_=>0
 |_+1,_,_,[]=>0
 |m+1,v,w,false :: I=>aY m v (fun J=>w (false :: J)) I
 |m+1,v,w,true :: I=>v m*w (false :: I)-aY m v (fun J=>w (true :: J)) I
theorem mE:∀(m:Nat) {u v:aR} (w:Om) (I:List Bool),(∀i,i<m->u i=v i)->aY m u w I=aY m v w I
 |0,_,_,_,_,_=>rfl
 |_+1,_,_,_,[],_=>rfl
 |m+1,u,v,w,false :: I,h=>mE m _ I (fun i hi=>h i om)
 |m+1,u,v,w,true :: I,h=>by
  show u m*_-aY m u _ I=v m*_-aY m v _ I;rw[mE m _ I (fun i hi=>h i om),h m om]
theorem iT:∀(m:Nat) (v:aR) (I:List Bool),aY m v (fun _=>0) I=0
 |0,_,_=>rfl
 |_+1,_,[]=>rfl
 |m+1,v,false :: I=>iT m v I
 |m+1,v,true :: I=>by
  show v m*0-aY m v (fun _=>0) I=0;rw[iT m v I];omega
theorem je:∀(m:Nat) (v:aR) (a b:Int) (w z:Om) (I:List Bool),aY m v (fun J=>a*w J+b*z J) I=a*aY m v w I+b*aY m v z I
 |0,v,a,b,w,z,I=>by show(0:Int)=a*0+b*0;omega
 |_+1,v,a,b,w,z,[]=>by show(0:Int)=a*0+b*0;omega
 |m+1,v,a,b,w,z,false :: I=>je m v a b _ _ I
 |m+1,v,a,b,w,z,true :: I=>by
  show v m*(a*w (false :: I)+b*z (false :: I))-aY m v (fun J=>a*w (true :: J)+b*z (true :: J)) I=a*(v m*w (false :: I)-aY m v (fun J=>w (true :: J)) I)+b*(v m*z (false :: I)-aY m v (fun J=>z (true :: J)) I);rw[je m v a b _ _ I];grind
theorem nj:∀(m:Nat) (u v:aR) (a b:Int) (w:Om) (I:List Bool),aY m (fun i=>a*u i+b*v i) w I=a*aY m u w I+b*aY m v w I
 |0,u,v,a,b,w,I=>by show(0:Int)=a*0+b*0;omega
 |_+1,u,v,a,b,w,[]=>by show(0:Int)=a*0+b*0;omega
 |m+1,u,v,a,b,w,false :: I=>nj m u v a b _ I
 |m+1,u,v,a,b,w,true :: I=>by
  show(a*u m+b*v m)*w (false :: I)-aY m (fun i=>a*u i+b*v i) _ I=a*(u m*w (false :: I)-aY m u _ I)+b*(v m*w (false :: I)-aY m v _ I);rw[nj m u v a b _ I];grind
theorem lH:∀(m:Nat) (v:aR) (w:Om) (I:List Bool),aY m v (aY m v w) I=0
 |0,_,_,_=>rfl
 |_+1,_,_,[]=>rfl
 |m+1,v,w,false :: I=>lH m v (fun J=>w (false :: J)) I
 |m+1,v,w,true :: I=>by
  show v m*aY m v (fun J=>w (false :: J)) I-aY m v (fun J=>v m*w (false :: J)-aY m v (fun K=>w (true :: K)) J) I=0;have e:(fun J=>v m*w (false :: J)-aY m v (fun K=>w (true :: K)) J)=(fun J=>v m*w (false :: J)+(-1)*aY m v (fun K=>w (true :: K)) J):=by funext J;omega
  rw[e,je m v (v m) (-1) (fun J=>w (false :: J)) (aY m v (fun K=>w (true :: K))) I,lH m v _ I];omega
theorem xZ(m:Nat)(u v:aR)(w:Om)(I:List Bool):aY m u (aY m v w) I=-aY m v (aY m u w) I:=by
 have h:=lH m (fun i=>1*u i+1*v i) w I;have e:aY m (fun i=>1*u i+1*v i) w=fun J=>1*aY m u w J+1*aY m v w J:=by funext J;exact nj m u v 1 1 w J
 rw[e,nj m u v 1 1,je m u 1 1 (aY m u w) (aY m v w) I,je m v 1 1 (aY m u w) (aY m v w) I,lH,lH]at h;omega
def unit:Om:=fun I=>if I.all (fun b=>!b)then 1 else 0
def prod(m:Nat)(W:Nat->aR):Nat->Om
 |0=>unit
 |k+1=>aY m (W k) (prod m W k)
def top(m:Nat):List Bool:=List.replicate m true
def vol(m:Nat)(W:Nat->aR):Int:=prod m W m (top m)
def put(W:Nat->aR)(i:Nat)(a:aR):Nat->aR:=fun k=>if k=i then a else W k
theorem fR{m:Nat}{W V:Nat->aR}:∀(k:Nat),(∀j,j<k->∀i,i<m->W j i=V j i)->prod m W k=prod m V k
 |0,_=>rfl
 |k+1,h=>by
  funext I
  show aY m (W k) (prod m W k) I=aY m (V k) (prod m V k) I;rw[fR k (fun j hj=>h j om),mE m _ I (h k om)]
theorem ya{m:Nat}{W:Nat->aR}{k:Nat}:∀(d:Nat) (I:List Bool),aY m (W k) (prod m W (k+1+d)) I=0
 |0,I=>lH m (W k) (prod m W k) I
 |d+1,I=>by
  show aY m (W k) (aY m (W (k+1+d)) (prod m W (k+1+d))) I=0;rw[xZ];have e:aY m (W k) (prod m W (k+1+d))=fun _=>0:=by funext J;exact ya d J
  rw[e,iT];rfl
theorem AO{m:Nat}{W:Nat->aR}{k:Nat}(h:prod m W k=fun _=>0):∀d,prod m W (k+d)=fun _=>0
 |0=>h
 |d+1=>by
  funext I
  show aY m (W (k+d)) (prod m W (k+d)) I=0;rw[AO h d,iT]
theorem DP{m:Nat}{W:Nat->aR}{i:Nat}{a b:aR}{x y:Int}:∀(d:Nat),prod m (put W i (fun r=>x*a r+y*b r)) (i+1+d)=fun I=>x*prod m (put W i a) (i+1+d) I+y*prod m (put W i b) (i+1+d) I
 |0=>by
  have pre:∀c,prod m (put W i c) i=prod m W i:=fun c=>fR i (fun j hj r hr=>by unfold put;rw[if_neg om])
  funext I
  show aY m (put W i (fun r=>x*a r+y*b r) i) (prod m (put W i (fun r=>x*a r+y*b r)) i) I=x*aY m (put W i a i) (prod m (put W i a) i) I+y*aY m (put W i b i) (prod m (put W i b) i) I;rw[pre,pre,pre];have e:∀c,put W i c i=c:=fun c=>by unfold put;rw[if_pos rfl]
  rw[e,e,e,nj]
 |d+1=>by
  funext I
  show aY m (put W i (fun r=>x*a r+y*b r) (i+1+d)) (prod m (put W i (fun r=>x*a r+y*b r)) (i+1+d)) I=x*aY m (put W i a (i+1+d)) (prod m (put W i a) (i+1+d)) I+y*aY m (put W i b (i+1+d)) (prod m (put W i b) (i+1+d)) I;have e:∀c,put W i c (i+1+d)=W (i+1+d):=fun c=>by unfold put;rw[if_neg om]
  rw[e,e,e,DP d,je]
def aV(f:Nat->Int):Nat->Int
 |0=>0
 |k+1=>aV f k+f k
theorem aQ{f g:Nat->Int}:∀(n:Nat),(∀k,k<n->f k=g k)->aV f n=aV g n
 |0,_=>rfl
 |n+1,h=>by show aV f n+f n=aV g n+g n;rw[aQ n (fun k hk=>h k om),h n om]
theorem jw(c:Int)(f:Nat->Int):∀n,aV (fun k=>c*f k) n=c*aV f n
 |0=>by show(0:Int)=c*0;omega
 |n+1=>by show aV (fun k=>c*f k) n+c*f n=c*(aV f n+f n);rw[jw c f n,Int.mul_add]
theorem tv(f g:Nat->Int):∀n,aV (fun k=>f k+g k) n=aV f n+aV g n
 |0=>rfl
 |n+1=>by show aV (fun k=>f k+g k) n+(f n+g n)=aV f n+f n+(aV g n+g n);rw[tv f g n];omega
theorem pU{f:Nat->Int}{i:Nat}:∀(n:Nat),i<n->(∀k,k<n->k≠i->f k=0)->aV f n=f i
 |0,h,_=>om
 |n+1,h,z=>by
  show aV f n+f n=f i;by_cases e:i=n
  ·subst e
   rw[aQ (g:=fun _=>0) i (fun k hk=>z k om om)];have:∀n,aV (fun _=>0) n=0:=fun n=>by induction n with|zero=>rfl|succ n ih=>show aV _ n+0=0;rw[ih];rfl
   rw[this];omega
  ·rw[pU n om (fun k hk=>z k om),z n om om];omega
theorem jx{W:Nat->aR}{i:Nat}:put W i (W i)=W:=by
 funext k;unfold put;split
 ·rename_i e;rw[e]
 ·rfl
def E(i:Nat):aR:=fun r=>if r=i then 1 else 0
theorem yb{m:Nat}{W:Nat->aR}:∀(k:Nat),(∀j,j<k->W j m=0)->(∀I,prod (m+1) W k (false :: I)=prod m W k I)/\(∀I,prod (m+1) W k (true :: I)=0)
 |0,_=>⟨fun I=>rfl,fun I=>rfl⟩
 |k+1,h=>by
  obtain⟨h1,h2⟩:=yb k (fun j hj=>h j om);have e1:(fun J=>prod (m+1) W k (false :: J))=prod m W k:=funext h1;have e2:(fun J=>prod (m+1) W k (true :: J))=fun _=>0:=funext h2
  constructor
  ·intro I
   show aY m (W k) (fun J=>prod (m+1) W k (false :: J)) I=aY m (W k) (prod m W k) I;rw[e1]
  ·intro I
   show W k m*prod (m+1) W k (false :: I)-aY m (W k) (fun J=>prod (m+1) W k (true :: J)) I=0;rw[e2,iT,h k om];omega
theorem DQ:∀m,vol m E=1
 |0=>rfl
 |m+1=>by
  obtain⟨h1,h2⟩:=yb (m:=m) (W:=E) m (fun j hj=>by unfold E;rw[if_neg om]);have e2:(fun J=>prod (m+1) E m (true :: J))=fun _=>0:=funext h2
  show E m m*prod (m+1) E m (false :: top m)-aY m (E m) (fun J=>prod (m+1) E m (true :: J)) (top m)=1;rw[e2,iT,h1];have:prod m E m (top m)=1:=DQ m;rw[this];unfold E;rw[if_pos rfl];rfl
def vn:Nat->aR->Nat
 |0,_=>0
 |m+1,v=>vn m v+(v m).natAbs
end Go.Proofs.YtdpbiegfljmhmaaGreat.Ext
namespace Go.Proofs.YtdpbiegfljmhmaaGreat.Ext
def gK(v:aR):Nat->Nat->Nat
 |0,k=>k
 |f+1,k=>if v k≠0 then k else gK v f (k+1)
def aj(w:Nat)(v:aR):Nat:=gK v w 0
theorem jY(v:aR):∀(f k:Nat),k<=gK v f k/\gK v f k<=k+f/\(∀j,k<=j->j<gK v f k->v j=0)/\(gK v f k<k+f->v (gK v f k)≠0)
 |0,k=>⟨Nat.le_refl _,Nat.le_refl _,fun j h1 h2=>by simp only[gK]at h2;omega,fun h=>by simp only[gK]at h;omega⟩
 |f+1,k=>by
  by_cases c:v k≠0
  ·have e:gK v (f+1) k=k:=by show(if v k≠0 then k else _)=k;rw[if_pos c]
   rw[e];exact⟨Nat.le_refl _,om,fun j h1 h2=>om,fun _=>c⟩
  ·have e:gK v (f+1) k=gK v f (k+1):=by show(if v k≠0 then k else _)=_;rw[if_neg c]
   rw[e];obtain⟨h1,h2,h3,h4⟩:=jY v f (k+1);refine⟨om,om,fun j j1 j2=>?_,fun h=>h4 om⟩;by_cases e2:j=k
   ·subst e2;exact Classical.not_not.1 c
   ·exact h3 j om j2
theorem nk(w:Nat)(v:aR):aj w v<=w:=by have:=(jY v w 0).2.1;unfold aj;omega
theorem bB{w:Nat}{v:aR}{j:Nat}(h:j<aj w v):v j=0:=(jY v w 0).2.2.1 j (Nat.zero_le _) h
theorem lV{w:Nat}{v:aR}(h:aj w v<w):v (aj w v)≠0:=(jY v w 0).2.2.2 (by unfold aj at h;omega)
theorem iK{w c:Nat}{v:aR}(hc:c<=w)(hz:∀j,j<c->v j=0)(hn:c<w->v c≠0):aj w v=c:=by
 rcases Nat.lt_trichotomy (aj w v) c with h|h|h
 ·exact absurd (hz _ h) (lV om)
 ·exact h
 ·exact absurd (bB h) (hn (by have:=nk w v;omega))
def Sp(w k:Nat)(F:Nat->aR)(v:aR):Prop:=∃y:Nat->Int,∀j,j<w->v j=aV (fun i=>y i*F i j) k
theorem Sp.congr{w k:Nat}{F:Nat->aR}{u v:aR}(h:Sp w k F u)(e:∀j,j<w->u j=v j):Sp w k F v:=by
 obtain⟨y,hy⟩:=h;exact⟨y,fun j hj=>by rw[<-e j hj];exact hy j hj⟩
theorem qS(n:Nat):aV (fun _=>0) n=0:=by induction n with|zero=>rfl|succ n ih=>show aV _ n+0=0;rw[ih];rfl
theorem Sp.row{w k:Nat}(F:Nat->aR){i:Nat}(hi:i<k):Sp w k F (F i):=by
 refine⟨fun j=>if j=i then 1 else 0,fun j _=>?_⟩;show F i j=aV (fun m=>(if m=i then 1 else 0)*F m j) k;rw[pU (i:=i) k hi (fun m _ hm=>by show(if m=i then 1 else 0)*F m j=0;rw[if_neg hm];omega)];show F i j=(if i=i then 1 else 0)*F i j;rw[if_pos rfl];omega
theorem Sp.zero(w k:Nat)(F:Nat->aR):Sp w k F (fun _=>0):=⟨fun _=>0,fun j _=>by
 show(0:Int)=aV (fun i=>0*F i j) k;rw[aQ (g:=fun _=>0) k (fun i _=>by show 0*F i j=0;omega),qS]⟩
theorem Sp.comb{w k:Nat}{F:Nat->aR}{u v:aR}(a b:Int)(hu:Sp w k F u)(hv:Sp w k F v):Sp w k F (fun j=>a*u j+b*v j):=by
 obtain⟨y,hy⟩:=hu;obtain⟨z,hz⟩:=hv;refine⟨fun i=>a*y i+b*z i,fun j hj=>?_⟩;show a*u j+b*v j=aV (fun i=>(a*y i+b*z i)*F i j) k;rw[hy j hj,hz j hj,<-jw,<-jw,<-tv];exact aQ k (fun i _=>by rw[Int.add_mul,Int.mul_assoc,Int.mul_assoc])
theorem Sp.sum{w k:Nat}{F:Nat->aR}(y:Nat->Int)(G:Nat->aR):∀n,(∀i,i<n->Sp w k F (G i))->Sp w k F (fun j=>aV (fun i=>y i*G i j) n)
 |0,_=>Sp.zero w k F
 |n+1,h=>(Sp.comb 1 (y n) (Sp.sum y G n (fun i hi=>h i om)) (h n om)).congr (fun j _=>by show 1*aV (fun i=>y i*G i j) n+y n*G n j=aV (fun i=>y i*G i j) n+y n*G n j;omega)
theorem Sp.le{w k k':Nat}{F F':Nat->aR}(h:∀i,i<k'->Sp w k F (F' i)){v:aR}(hv:Sp w k' F' v):Sp w k F v:=by
 obtain⟨y,hy⟩:=hv;exact(Sp.sum y F' k' h).congr (fun j hj=>(hy j hj).symm)
structure Gc(w k:Nat)(F:Nat->aR):Prop where
 lt:∀i,i<k->aj w (F i)<w
 pos:∀i,i<k->0<F i (aj w (F i))
 inc:∀i j,i<j->j<k->aj w (F i)<aj w (F j)
 red:∀i j,i<j->j<k->0<=F i (aj w (F j))/\F i (aj w (F j))<F j (aj w (F j))
structure BP(w k:Nat)(F:Nat->aR):Prop where
 lt:∀i,i<k->aj w (F i)<w
 pos:∀i,i<k->0<F i (aj w (F i))
 inc:∀i j,i<j->j<k->aj w (F i)<aj w (F j)
theorem Gc.gI{w k:Nat}{F:Nat->aR}(h:Gc w k F):BP w k F:=⟨h.lt,h.pos,h.inc⟩
theorem Jn{f:Nat->Int}{i:Nat}:∀(n:Nat),i<n->(∀k,k<i->f k=0)->(∀k,i<k->k<n->f k=0)->aV f n=f i
 |n,h,z1,z2=>pU n h (fun k hk eO=>by rcases Nat.lt_or_gt_of_ne eO with q|q;exact z1 k q;exact z2 k q hk)
theorem Pu{p:Nat->Nat}{k:Nat}(h:∀i j,i<j->j<k->p i<p j){i j:Nat}(hi:i<k)(hj:j<k)(e:p i=p j):i=j:=by
 rcases Nat.lt_trichotomy i j with q|q|q
 ·have:=h i j q hj;omega
 ·exact q
 ·have:=h j i q hi;omega
end Go.Proofs.YtdpbiegfljmhmaaGreat.Ext
namespace Go.Proofs.YtdpbiegfljmhmaaGreat.Ext
def sQ:List Bool->Nat
 | []=>0
 |true :: I=>sQ I+1
 |false :: I=>sQ I
theorem BQ:∀m,sQ (top m)=m
 |0=>rfl
 |m+1=>by show sQ (top m)+1=m+1;rw[BQ m]
theorem yc{a b:Int}{A B:Nat}(ha:a.natAbs<=A)(hb:b.natAbs<=B):(a*b).natAbs<=A*B:=by
 rw[Int.natAbs_mul];exact Nat.mul_le_mul ha hb
theorem ye:∀(m:Nat) (v:aR) (w:Om) (I:List Bool) (B:Nat),(∀J,sQ J+1=sQ I->(w J).natAbs<=B)->(aY m v w I).natAbs<=vn m v*B
 |0,v,w,I,B,h=>by show(0:Int).natAbs<=_;simp
 |m+1,v,w,[],B,h=>by show(0:Int).natAbs<=_;simp
 |m+1,v,w,false :: I,B,h=>by
  have:=ye m v (fun J=>w (false :: J)) I B (fun J hJ=>h (false :: J) hJ);show(aY m v (fun J=>w (false :: J)) I).natAbs<=(vn m v+(v m).natAbs)*B;rw[Nat.add_mul];omega
 |m+1,v,w,true :: I,B,h=>by
  have h1:=ye m v (fun J=>w (true :: J)) I B (fun J hJ=>h (true :: J) (by show sQ J+1+1=sQ I+1;omega));have h2:(v m*w (false :: I)).natAbs<=(v m).natAbs*B:=yc (Nat.le_refl _) (h (false :: I) rfl);show(v m*w (false :: I)-aY m v (fun J=>w (true :: J)) I).natAbs<=(vn m v+(v m).natAbs)*B;rw[Nat.add_mul];omega
theorem uJ:∀(m:Nat) (v:aR) (w:Om) (I:List Bool) (M B:Nat),(∀i,i<m->(v i).natAbs<=M)->(∀J,sQ J+1=sQ I->(w J).natAbs<=B)->(aY m v w I).natAbs<=sQ I*(M*B)
 |0,v,w,I,M,B,_,_=>by show(0:Int).natAbs<=_;simp
 |m+1,v,w,[],M,B,_,_=>by show(0:Int).natAbs<=_;simp
 |m+1,v,w,false :: I,M,B,hv,h=>uJ m v (fun J=>w (false :: J)) I M B (fun i hi=>hv i om) (fun J hJ=>h (false :: J) hJ)
 |m+1,v,w,true :: I,M,B,hv,h=>by
  have h1:=uJ m v (fun J=>w (true :: J)) I M B (fun i hi=>hv i om) (fun J hJ=>h (true :: J) (by show sQ J+1+1=sQ I+1;omega));have h2:(v m*w (false :: I)).natAbs<=M*B:=yc (hv m om) (h (false :: I) rfl);show(v m*w (false :: I)-aY m v (fun J=>w (true :: J)) I).natAbs<=(sQ I+1)*(M*B);rw[Nat.add_mul];omega
def tw:Nat->Nat->Nat
 |_,0=>1
 |c,k+1=>c*tw (c-1) k
theorem yf{m:Nat}{W:Nat->aR}{M:Nat}:∀(k:Nat),(∀y,y<k->∀i,i<m->(W y i).natAbs<=M)->∀I,(prod m W k I).natAbs<=tw (sQ I) k*M ^ k
 |0,_,I=>by
  show(unit I).natAbs<=1*1;unfold unit;split<;>simp
 |k+1,h,I=>by
  have:=uJ m (W k) (prod m W k) I M (tw (sQ I-1) k*M ^ k) (h k om) (fun J hJ=>by
   have:=yf k (fun y hy=>h y om) J;rw[show sQ I-1=sQ J by omega];exact this)
  show(aY m (W k) (prod m W k) I).natAbs<=sQ I*tw (sQ I-1) k*M ^ (k+1);rw[Nat.pow_succ];have e:sQ I*(M*(tw (sQ I-1) k*M ^ k))=sQ I*tw (sQ I-1) k*(M ^ k*M):=by
   rw[Nat.mul_comm M,Nat.mul_assoc,Nat.mul_assoc]
  omega
theorem yg{m n:Nat}{W:Nat->aR}{i k:Nat}(hi:i<n)(hk:k<n)(eO:i≠k)(e:∀r,r<m->W i r=W k r):prod m W n=fun _=>0:=by
 have one:∀{i k:Nat},i<n->k<i->(∀r,r<m->W i r=W k r)->prod m W n=fun _=>0:=by
  intro i k hi hk e;have h:prod m W (i+1)=fun _=>0:=by
   funext I
   show aY m (W i) (prod m W i) I=0;rw[mE m _ I e,show i=k+1+(i-(k+1)) by omega];exact ya _ I
  have:=AO h (n-(i+1));rw[show i+1+(n-(i+1))=n by omega]at this;exact this
 rcases Nat.lt_or_gt_of_ne eO with q|q
 ·exact one hk q (fun r hr=>(e r hr).symm)
 ·exact one hi q e
theorem pV{m n:Nat}{W:Nat->aR}{i:Nat}(hi:i<n)(a b:aR)(x y:Int)(I:List Bool):prod m (put W i (fun r=>x*a r+y*b r)) n I=x*prod m (put W i a) n I+y*prod m (put W i b) n I:=by
 have:=DP (m:=m) (W:=W) (i:=i) (a:=a) (b:=b) (x:=x) (y:=y) (n-(i+1));rw[show i+1+(n-(i+1))=n by omega]at this;rw[this]
theorem Jo{m n:Nat}{W:Nat->aR}{i:Nat}(hi:i<n)(hz:∀r,r<m->W i r=0)(I:List Bool):prod m W n I=0:=by
 have:=pV (m:=m) (W:=W) hi (W i) (W i) 0 0 I;rw[fR (W:=put W i (fun r=>0*W i r+0*W i r)) (V:=W) n (fun j hj r hr=>by
  unfold put;split
  ·rename_i e;rw[e];show 0*W i r+0*W i r=W i r;rw[hz r hr];rfl
  ·rfl)]at this
 omega
theorem LM{m n:Nat}{W:Nat->aR}{r y:Nat}(hr:r<n)(hy:y<n)(eO:r≠y)(t:Int)(I:List Bool):prod m (put W r (fun j=>W r j-t*W y j)) n I=prod m W n I:=by
 have e:(fun j=>W r j-t*W y j)=(fun j=>1*W r j+(-t)*W y j):=by funext j;rw[Int.neg_mul];omega
 rw[e,pV hr,jx,yg (W:=put W r (W y)) hr hy eO (fun j _=>by unfold put;rw[if_pos rfl,if_neg om])];show 1*prod m W n I + -t*0=prod m W n I;omega
theorem od{W:Nat->aR}{i k:Nat}(h:i≠k)(a b:aR):put (put W i a) k b=put (put W k b) i a:=by
 funext j;unfold put
 by_cases h1:j=k
 ·rw[if_pos h1]
  by_cases h2:j=i
  ·omega
  ·rw[if_neg h2,if_pos h1]
 ·rw[if_neg h1]
  by_cases h2:j=i
  ·rw[if_pos h2,if_pos h2]
  ·rw[if_neg h2,if_neg h2,if_neg h1]
theorem jy{W:Nat->aR}{i:Nat}(a b:aR):put (put W i a) i b=put W i b:=by
 funext j;unfold put;split<;>rfl
theorem Jp{m n:Nat}{W:Nat->aR}{i k:Nat}(hi:i<n)(hk:k<n)(eO:i≠k)(I:List Bool):prod m (put (put W i (W k)) k (W i)) n I=-prod m W n I:=by
 let P:aR->aR->Int:=fun a b=>prod m (put (put W i a) k b) n I
 have two:∀a,P a a=0:=fun a=>by
  show prod m (put (put W i a) k a) n I=0;rw[yg (W:=put (put W i a) k a) hi hk eO (fun r _=>by unfold put;rw[if_neg eO,if_pos rfl,if_pos rfl])]
 have ZB:∀a a' b,P (fun r=>1*a r+1*a' r) b=1*P a b+1*P a' b:=fun a a' b=>by
  show prod m (put (put W i _) k b) n I=_;rw[od eO,pV hi,<-od eO,<-od eO]
 have VN:∀a b b',P a (fun r=>1*b r+1*b' r)=1*P a b+1*P a b':=fun a b b'=>pV hk _ _ _ _ _
 have h:=two (fun r=>1*W i r+1*W k r);rw[ZB,VN,VN,two,two]at h;have e1:P (W i) (W k)=prod m W n I:=by
  show prod m (put (put W i (W i)) k (W k)) n I=_;rw[jx,jx]
 have e2:P (W k) (W i)=prod m (put (put W i (W k)) k (W i)) n I:=rfl;omega
theorem LN{m n:Nat}{W:Nat->aR}{i:Nat}(hi:i<n)(I:List Bool):prod m (put W i (fun r=>-(W i r))) n I=-prod m W n I:=by
 have e:(fun r=>-(W i r))=(fun r=>(-1)*W i r+0*W i r):=by funext r;omega
 rw[e,pV hi,jx];omega
def rv(k:Nat)(F:Nat->aR)(J:Nat->Nat):Nat->aR:=fun y i=>F (k-1-y) (J i)
structure kY(w k:Nat)(F F0:Nat->aR):Prop where
 le:∀i,i<k->Sp w k F0 (F i)
 ge:∀i,i<k->Sp w k F (F0 i)
 Jq:∃s:Int,(s=1\/s=-1)/\∀d J I,prod d (rv k F J) k I=s*prod d (rv k F0 J) k I
theorem kY.abs{w k:Nat}{F F0:Nat->aR}(h:kY w k F F0)(d:Nat)(J:Nat->Nat)(I:List Bool):(prod d (rv k F J) k I).natAbs=(prod d (rv k F0 J) k I).natAbs:=by
 obtain⟨s,hs,e⟩:=h.Jq;have:=e d J I;rcases hs with rfl|rfl<;>omega
theorem kY.refl(w k:Nat)(F:Nat->aR):kY w k F F:=⟨fun i hi=>Sp.row F hi,fun i hi=>Sp.row F hi,1,.inl rfl,fun _ _ _=>(Int.one_mul _).symm⟩
theorem kY.trans{w k:Nat}{F F1 F0:Nat->aR}(h:kY w k F F1)(h0:kY w k F1 F0):kY w k F F0:=by
 obtain⟨s,hs,e⟩:=h.Jq;obtain⟨s0,VO,e0⟩:=h0.Jq;refine⟨fun i hi=>Sp.le h0.le (h.le i hi),fun i hi=>Sp.le h.ge (h0.ge i hi),s*s0,?_,fun d J I=>by rw[e,e0,Int.mul_assoc]⟩;rcases hs with rfl|rfl<;>rcases VO with rfl|rfl<;>simp
theorem LO{k:Nat}{F:Nat->aR}{J:Nat->Nat}{r:Nat}(hr:r<k)(v:aR):∀y,y<k->∀i,rv k (put F r v) J y i=put (rv k F J) (k-1-r) (fun i=>v (J i)) y i:=by
 intro y hy i;unfold rv put;by_cases e:k-1-y=r
 ·rw[if_pos e,if_pos om]
 ·rw[if_neg e,if_neg om]
theorem kY.sub{w k:Nat}{F:Nat->aR}{r y:Nat}(hr:r<k)(hy:y<k)(eO:r≠y)(t:Int):kY w k (put F r (fun j=>F r j-t*F y j)) F:=by
 have hp:∀i,i≠r->put F r (fun j=>F r j-t*F y j) i=F i:=fun i hi=>by unfold put;rw[if_neg hi]
 have hq:put F r (fun j=>F r j-t*F y j) r=fun j=>F r j-t*F y j:=by unfold put;rw[if_pos rfl]
 refine⟨fun i hi=>?_,fun i hi=>?_,1,.inl rfl,fun d J I=>?_⟩
 ·by_cases e:i=r
  ·subst e;rw[hq]
   exact((Sp.row F hr).comb 1 (-t) (Sp.row F hy)).congr (fun j _=>by rw[Int.neg_mul];omega)
  ·rw[hp i e];exact Sp.row F hi
 ·by_cases e:i=r
  ·subst e
   have h1:=Sp.row (w:=w) (put F i (fun j=>F i j-t*F y j)) hr;have h2:=Sp.row (w:=w) (put F i (fun j=>F i j-t*F y j)) hy;rw[hq]at h1;rw[hp y om]at h2;exact(h1.comb 1 t h2).congr (fun j _=>om)
  ·have:=Sp.row (w:=w) (put F r (fun j=>F r j-t*F y j)) hi
   rw[hp i e]at this;exact this
 ·rw[fR k (fun y hy i _=>LO hr _ y hy i)]
  have:=LM (m:=d) (n:=k) (W:=rv k F J) (r:=k-1-r) (y:=k-1-y) om om om t I;have e1:(fun i=>rv k F J (k-1-r) i-t*rv k F J (k-1-y) i)=fun i=>F r (J i)-t*F y (J i):=by
   funext i;unfold rv;rw[show k-1-(k-1-r)=r by omega,show k-1-(k-1-y)=y by omega]
  rw[e1]at this;rw[this,Int.one_mul]
def OO(F:Nat->aR)(a b:Nat):Nat->aR:=put (put F a (F b)) b (F a)
theorem kY.swap{w k:Nat}{F:Nat->aR}{a b:Nat}(ha:a<k)(hb:b<k):kY w k (OO F a b) F:=by
 by_cases eO:a=b
 ·subst eO;unfold OO;rw[jx,jx];exact .refl _ _ _
 have hv:∀i,OO F a b i=if i=b then F a else if i=a then F b else F i:=fun i=>rfl
 refine⟨fun i hi=>?_,fun i hi=>?_,-1,.inr rfl,fun d J I=>?_⟩
 ·rw[hv];split
  ·exact Sp.row F ha
  ·split
   ·exact Sp.row F hb
   ·exact Sp.row F hi
 ·by_cases e:i=a
  ·have:=Sp.row (w:=w) (OO F a b) hb
   rw[hv,if_pos rfl]at this;rw[e];exact this
  ·by_cases e2:i=b
   ·have:=Sp.row (w:=w) (OO F a b) ha
    rw[hv,if_neg eO,if_pos rfl]at this;rw[e2];exact this
   ·have:=Sp.row (w:=w) (OO F a b) hi
    rw[hv,if_neg e2,if_neg e]at this;exact this
 ·have e:∀y,y<k->∀i,i<d->rv k (OO F a b) J y i=put (put (rv k F J) (k-1-a) (rv k F J (k-1-b))) (k-1-b) (rv k F J (k-1-a)) y i:=by
   intro y hy i _;show OO F a b (k-1-y) (J i)=(if y=k-1-b then rv k F J (k-1-a)else if y=k-1-a then rv k F J (k-1-b)else rv k F J y) i;rw[hv];by_cases e1:k-1-y=b
   ·rw[if_pos e1,if_pos (show y=k-1-b by omega)]
    unfold rv;rw[show k-1-(k-1-a)=a by omega]
   ·rw[if_neg e1,if_neg (show ¬y=k-1-b by omega)]
    by_cases e2:k-1-y=a
    ·rw[if_pos e2,if_pos (show y=k-1-a by omega)]
     unfold rv;rw[show k-1-(k-1-b)=b by omega]
    ·rw[if_neg e2,if_neg (show ¬y=k-1-a by omega)];rfl
  rw[fR k e,Jp om om om];omega
theorem kY.neg{w k:Nat}{F:Nat->aR}{r:Nat}(hr:r<k):kY w k (put F r (fun j=>-(F r j))) F:=by
 have hp:∀i,i≠r->put F r (fun j=>-(F r j)) i=F i:=fun i hi=>by unfold put;rw[if_neg hi]
 have hq:put F r (fun j=>-(F r j)) r=fun j=>-(F r j):=by unfold put;rw[if_pos rfl]
 refine⟨fun i hi=>?_,fun i hi=>?_,-1,.inr rfl,fun d J I=>?_⟩
 ·by_cases e:i=r
  ·subst e;rw[hq]
   exact((Sp.row F hr).comb (-1) 0 (Sp.row F hr)).congr (fun j _=>om)
  ·rw[hp i e];exact Sp.row F hi
 ·by_cases e:i=r
  ·subst e
   have h1:=Sp.row (w:=w) (put F i (fun j=>-(F i j))) hr;rw[hq]at h1;exact(h1.comb (-1) 0 h1).congr (fun j _=>om)
  ·have:=Sp.row (w:=w) (put F r (fun j=>-(F r j))) hi
   rw[hp i e]at this;exact this
 ·rw[fR k (fun y hy i _=>LO hr _ y hy i)]
  have:=LN (m:=d) (n:=k) (W:=rv k F J) (i:=k-1-r) om I;have e1:(fun i=>-(rv k F J (k-1-r) i))=fun i=>-(F r (J i)):=by
   funext i;unfold rv;rw[show k-1-(k-1-r)=r by omega]
  rw[e1]at this;rw[this];omega
theorem kY.of_eq{w k:Nat}{F G:Nat->aR}(e:∀i,i<k->F i=G i):kY w k F G:=by
 refine⟨fun i hi=>by rw[e i hi];exact Sp.row G hi,fun i hi=>by rw[<-e i hi];exact Sp.row F hi,1,.inl rfl,fun d J I=>?_⟩;rw[fR k (V:=rv k G J) (fun y hy i _=>by unfold rv;rw[e _ om]),Int.one_mul]
def LP(v:aR)(W:Nat->aR):Nat->aR:=fun y=>match y with|0=>v|y+1=>W y
theorem DR:∀k:Nat,∃t:Int,∀(d:Nat) (v:aR) (W:Nat->aR),prod d (LP v W) (k+1)=fun I=>t*aY d v (prod d W k) I
 |0=>⟨1,fun d v W=>by funext I;show aY d v unit I=1*aY d v unit I;omega⟩
 |k+1=>by
  obtain⟨t,h⟩:=DR k;refine⟨-t,fun d v W=>?_⟩
  funext I
  show aY d (W k) (prod d (LP v W) (k+1)) I=-t*aY d v (aY d (W k) (prod d W k)) I;rw[h d v W];have:=je d (W k) t 0 (aY d v (prod d W k)) (fun _=>0) I;have e:(fun J=>t*aY d v (prod d W k) J+0*(fun _=>(0:Int)) J)=fun J=>t*aY d v (prod d W k) J:=by funext J;omega
  rw[e]at this;rw[this,xZ,Int.neg_mul,Int.mul_neg];omega
theorem Sp.more{w k:Nat}{F:Nat->aR}{v u:aR}(h:Sp w k F v):Sp w (k+1) (put F k u) v:=by
 obtain⟨y,hy⟩:=h;refine⟨fun i=>if i=k then 0 else y i,fun j hj=>?_⟩;show v j=aV (fun i=>(if i=k then 0 else y i)*put F k u i j) k+(if k=k then 0 else y k)*put F k u k j;have e:aV (fun i=>(if i=k then 0 else y i)*put F k u i j) k=aV (fun i=>y i*F i j) k:=aQ k (fun i hi=>by
  show(if i=k then 0 else y i)*(if i=k then u else F i) j=y i*F i j;rw[if_neg om,if_neg om])
 rw[if_pos rfl,hy j hj,e];omega
theorem kY.more{w k:Nat}{F F0:Nat->aR}(h:kY w k F F0)(v:aR):kY w (k+1) (put F k v) (put F0 k v):=by
 have hp:∀(F:Nat->aR) i,i≠k->put F k v i=F i:=fun F i hi=>by unfold put;rw[if_neg hi]
 have hq:∀(F:Nat->aR),put F k v k=v:=fun F=>by unfold put;rw[if_pos rfl]
 have hr:∀(F:Nat->aR) J y,y<k+1->∀i,rv (k+1) (put F k v) J y i=LP (fun i=>v (J i)) (rv k F J) y i:=fun F J y hy i=>by
  cases y with
  |zero=>unfold rv;rw[show k+1-1-0=k by omega,hq];rfl
  |succ y=>unfold rv;rw[hp F _ om,show k+1-1-(y+1)=k-1-y by omega];rfl
 obtain⟨s,hs,e⟩:=h.Jq;obtain⟨t,ht⟩:=DR k;refine⟨fun i hi=>?_,fun i hi=>?_,s,hs,fun d J I=>?_⟩
 ·by_cases c:i=k
  ·subst c
   have:=Sp.row (w:=w) (put F0 i v) (show i<i+1 by omega);rw[hq]at this;rw[hq];exact this
  ·rw[hp F i c];exact(h.le i om).more
 ·by_cases c:i=k
  ·subst c
   have:=Sp.row (w:=w) (put F i v) (show i<i+1 by omega);rw[hq]at this;rw[hq];exact this
  ·rw[hp F0 i c];exact(h.ge i om).more
 ·rw[fR (k+1) (fun y hy i _=>hr F J y hy i),fR (k+1) (fun y hy i _=>hr F0 J y hy i),ht,ht]
  have e1:prod d (rv k F J) k=fun I=>s*prod d (rv k F0 J) k I:=by funext I;exact e d J I
  rw[e1];have:=je d (fun i=>v (J i)) s 0 (prod d (rv k F0 J) k) (fun _=>0) I;have e2:(fun K=>s*prod d (rv k F0 J) k K+0*(fun _=>(0:Int)) K)=fun K=>s*prod d (rv k F0 J) k K:=by funext K;omega
  rw[e2]at this;show t*aY d (fun i=>v (J i)) (fun I=>s*prod d (rv k F0 J) k I) I=s*(t*aY d (fun i=>v (J i)) (prod d (rv k F0 J) k) I);rw[this,Int.zero_mul,Int.add_zero,<-Int.mul_assoc,<-Int.mul_assoc,Int.mul_comm t s]
def gv(f:Nat->Int):Nat->Int
 |0=>1
 |k+1=>gv f k*f k
theorem HM{m:Nat}{W:Nat->aR}:∀k,k<=m->(∀y,y<k->∀i,y<i->i<m->W y i=0)->prod k W k (top k)=gv (fun y=>W y y) k
 |0,_,_=>rfl
 |k+1,hk,h=>by
  obtain⟨h1,h2⟩:=yb (m:=k) (W:=W) k (fun j hj=>h j om k hj om);have e2:(fun J=>prod (k+1) W k (true :: J))=fun _=>0:=funext h2
  show W k k*prod (k+1) W k (false :: top k)-aY k (W k) (fun J=>prod (k+1) W k (true :: J)) (top k)=gv (fun y=>W y y) k*W k k;rw[e2,iT,h1,HM k om (fun y hy i h3 h4=>h y om i h3 h4)];rw[Int.mul_comm];omega
theorem yh{m:Nat}{W:Nat->aR}:∀(k:Nat) (I:List Bool),prod (m+1) W k (false :: I)=prod m W k I
 |0,I=>rfl
 |k+1,I=>by
  have e:(fun J=>prod (m+1) W k (false :: J))=prod m W k:=funext (yh k);show aY m (W k) (fun J=>prod (m+1) W k (false :: J)) I=aY m (W k) (prod m W k) I;rw[e]
theorem pW{f g:Nat->Int}:∀k,(∀i,i<k->f i=g i)->gv f k=gv g k
 |0,_=>rfl
 |k+1,h=>by show gv f k*f k=gv g k*g k;rw[pW k (fun i hi=>h i om),h k om]
theorem uK{f:Nat->Int}:∀k,(∀i,i<k->0<f i)->0<gv f k
 |0,_=>by show(0:Int)<1;omega
 |k+1,h=>Int.mul_pos (uK k (fun i hi=>h i om)) (h k om)
theorem DS{f:Nat->Int}:∀k,(∀i,i<k->0<f i)->∀i,i<k->f i<=gv f k
 |0,_,i,hi=>om
 |k+1,h,i,hi=>by
  have p1:=uK k (fun i hi=>h i om);have p2:=h k om;show f i<=gv f k*f k;by_cases e:i=k
  ·subst e
   have:=Int.mul_le_mul_of_nonneg_right (show(1:Int)<=gv f i by omega) (Int.le_of_lt p2);omega
  ·have h1:=DS k (fun i hi=>h i om) i om
   have:=Int.mul_le_mul_of_nonneg_left (show(1:Int)<=f k by omega) (Int.le_of_lt p1);omega
theorem Jr(f:Nat->Int):∀k,gv (fun i=>f (k-1-i)) k=gv f k:=by
 have shift:∀k (g:Nat->Int),gv g (k+1)=g 0*gv (fun i=>g (i+1)) k:=fun k=>by
  induction k with
  |zero=>intro g;show 1*g 0=g 0*1;omega
  |succ k ih=>intro g;show gv g (k+1)*g (k+1)=g 0*(gv (fun i=>g (i+1)) k*g (k+1));rw[ih,Int.mul_assoc]
 intro k
 induction k with
 |zero=>rfl
 |succ k ih=>
  rw[shift];show f (k+1-1-0)*gv (fun i=>f (k+1-1-(i+1))) k=gv f k*f k;rw[pW k (g:=fun i=>f (k-1-i)) (fun i hi=>by rw[show k+1-1-(i+1)=k-1-i by omega]),ih,Int.mul_comm];rfl
def mr(w k:Nat)(F:Nat->aR)(j:Nat):Nat->Nat:=fun i=>if i<k then aj w (F (k-1-i))else j
theorem HN{w k:Nat}{F:Nat->aR}(h:BP w k F)(j:Nat):prod k (rv k F (mr w k F j)) k (top k)=gv (fun i=>F i (aj w (F i))) k:=by
 rw[HM (m:=k) k (Nat.le_refl _) (fun y hy i h1 h2=>?_),<-Jr (fun i=>F i (aj w (F i)))]
 ·refine pW k (fun i hi=>?_)
  show F (k-1-i) (mr w k F j i)=F (k-1-i) (aj w (F (k-1-i)));unfold mr;rw[if_pos hi]
 ·unfold rv mr
  rw[if_pos h2];exact bB (h.inc _ _ om om)
theorem Rf{k M:Nat}{F0:Nat->aR}{w:Nat}(hM:∀i,i<k->∀j,(F0 i j).natAbs<=M)(J:Nat->Nat):∀y,y<k->∀i,(rv k F0 J y i).natAbs<=M:=fun y hy i=>hM _ om _
theorem kY.leads{w k M:Nat}{F F0:Nat->aR}(h:BP w k F)(l:kY w k F F0)(hM:∀i,i<k->∀j,(F0 i j).natAbs<=M):gv (fun i=>F i (aj w (F i))) k<=(tw k k*M ^ k:Nat):=by
 have h1:=l.abs k (mr w k F 0) (top k);rw[HN h]at h1;have h2:=yf (m:=k) (W:=rv k F0 (mr w k F 0)) (M:=M) k (fun y hy i _=>Rf (w:=w) hM _ y hy i) (top k);rw[BQ,<-h1]at h2;omega
theorem LQ{v:aR}{f:Nat->Int}{D:Nat}:∀m,(∀i,i<m->(v i).natAbs<=D)->vn m v<=m*D
 |0,_=>by show 0<=_;omega
 |m+1,h=>by
  have:=LQ (v:=v) (f:=f) (D:=D) m (fun i hi=>h i om);have:=h m om;show vn m v+(v m).natAbs<=(m+1)*D;rw[Nat.add_mul];omega
theorem kY.bound{w k M:Nat}{F F0:Nat->aR}(h:BP w k F)(l:kY w k F F0)(hM:∀i,i<k->∀j,(F0 i j).natAbs<=M){r:Nat}(hr:r<k)(hb:∀i,i<k->(F r (aj w (F i))).natAbs<=(F i (aj w (F i))).natAbs)(j:Nat):(F r j).natAbs<=k*(tw k k*M ^ k):=by
 have hD:0<gv (fun i=>F i (aj w (F i))) k:=uK k h.pos;obtain⟨D,eD⟩:∃D:Nat,gv (fun i=>F i (aj w (F i))) k=D:=⟨(gv (fun i=>F i (aj w (F i))) k).toNat,om⟩;have h0:aY (k+1) (rv k F (mr w k F j) (k-1-r)) (prod (k+1) (rv k F (mr w k F j)) k) (true :: top k)=0:=by
  have:=ya (m:=k+1) (W:=rv k F (mr w k F j)) (k:=k-1-r) r (true :: top k);rw[show k-1-r+1+r=k by omega]at this;exact this
 have h1:rv k F (mr w k F j) (k-1-r) k*prod (k+1) (rv k F (mr w k F j)) k (false :: top k)-aY k (rv k F (mr w k F j) (k-1-r)) (fun J=>prod (k+1) (rv k F (mr w k F j)) k (true :: J)) (top k)=0:=h0;rw[yh,HN h,eD]at h1;have e1:rv k F (mr w k F j) (k-1-r) k=F r j:=by unfold rv mr;rw[if_neg om,show k-1-(k-1-r)=r by omega]
 rw[e1]at h1;have h2:=ye k (rv k F (mr w k F j) (k-1-r)) (fun J=>prod (k+1) (rv k F (mr w k F j)) k (true :: J)) (top k) (tw k k*M ^ k) (fun J hJ=>by
  rw[l.abs];have:=yf (m:=k+1) (W:=rv k F0 (mr w k F j)) (M:=M) k (fun y hy i _=>Rf (w:=w) hM _ y hy i) (true :: J);rw[show sQ (true :: J)=k by rw[<-BQ k,<-hJ];rfl]at this;exact this)
 have h3:vn k (rv k F (mr w k F j) (k-1-r))<=k*D:=LQ (f:=fun _=>0) k (fun i hi=>by
  unfold rv mr;rw[if_pos hi,show k-1-(k-1-r)=r by omega];have q1:=hb (k-1-i) om;have q2:=DS k h.pos (k-1-i) om;have q3:=h.pos (k-1-i) om;rw[eD]at q2;omega)
 generalize aY k (rv k F (mr w k F j) (k-1-r)) (fun J=>prod (k+1) (rv k F (mr w k F j)) k (true :: J)) (top k)=W at h1 h2;have h4:(F r j).natAbs*D=W.natAbs:=by rw[show W=F r j*D by omega,Int.natAbs_mul];rfl
 have h5:(F r j).natAbs*D<=k*(tw k k*M ^ k)*D:=by
  rw[h4];refine Nat.le_trans h2 (Nat.le_trans (Nat.mul_le_mul_right _ h3) ?_);rw[Nat.mul_assoc,Nat.mul_comm D,<-Nat.mul_assoc];exact Nat.le_refl _
 exact Nat.le_of_mul_le_mul_right h5 om
theorem kY.ne{w k d:Nat}{F F0:Nat->aR}(l:kY w k F F0){J:Nat->Nat}{I:List Bool}(hJ:∀i,i<d->J i<w)(h:prod d (rv k F0 J) k I≠0){r:Nat}(hr:r<k):aj w (F r)<w:=by
 rcases Nat.lt_or_ge (aj w (F r)) w with c|c
 ·exact c
 ·exfalso
  have h1:=l.abs d J I;rw[Jo (W:=rv k F J) (i:=k-1-r) om (fun i hi=>by
   unfold rv;rw[show k-1-(k-1-r)=r by omega];exact bB (w:=w) (by have:=hJ i hi;omega))]at h1
  omega
end Go.Proofs.YtdpbiegfljmhmaaGreat.Ext
namespace Go.cV
open Go.RowKit
def kE:af:={ next:=0,low:=0,m:=.leaf }
def pX:Option (Value×af)->Bool
 |some (.bool true,_)=>true
 |_=>false
theorem z9{r:Option (Value×af)}(h:pX r=true):∃h',r=some (.bool true,h'):=by
 unfold pX at h;split at h
 ·exact⟨_,rfl⟩
 ·cases h
theorem te.calls{P : Program}{g : FuncId}{fn : Func}{args : Array Value}{w : World}{R : Value → World → Prop}(h : te P g args w R)(hf : P.funcs[g]? = some fn)(hb : fn.body.isSome = true)(cG : (fn.name == "runtime.NumGoroutine") = false) :
  Calls P g args w (fun e w'=>∃c,e=.returned c/\R c w'):=by
 rcases h with ⟨_,h⟩|⟨c,w',h,_⟩
 ·exact h
 ·rw[ia hf hb cG]at h;simp at h
theorem Gd{P : Program}{call : cF}(hc : dC P call){g : FuncId}{fn : Func}(hf : P.funcs[g]? = some fn)(hb : fn.body.isSome = true)(cG : (fn.name == "runtime.NumGoroutine") = false)(h : pX (call g [] kE) = true)(w : World)(hg : g < aW := by decide) :
  Calls P g #[] w fun e w'=>e=.returned (.bool true)/\Below w.heap.size w w':=by
 obtain⟨h',he⟩:=z9 h;have hR:HR ⟨fun _=>none,fun _=>none⟩ (iC kE) w:=
  { cU:=(fun id L h=>by cases h),dm:=(fun id L h=>by cases h),cK:=(fun id L b h=>by cases h),dn:=(fun id pF L L' b b' h=>by cases h),fe:=(fun t L h=>by cases h),dX:=(fun t L h=>by cases h),ff:=(fun t t' L L' h=>by cases h),sep:=(fun id t L L' h=>by cases h) }
 have hd:=hc g [] kE _ h' he hg (fun _=>none) w [] hR (fJ.nil _);refine(hd.calls hf hb cG).mono ?_;rintro e w' ⟨c,rfl,G',hv,hG,_⟩;rw[hv.bool];refine⟨rfl,hG.os,hG.tape,hG.output,hG.size,fun k hk=>hG.frame k hk (fun id L h=>by cases h) (fun t L h=>by cases h)⟩
end Go.cV
namespace Go.cV
theorem fJ.HO{g:Nat->Option Loc}:∀{l l':List Value},fJ g l l'->l.all bm=true->l'=l
 | [],l',h,_=>h.iX
 |u :: l,l',h,hf=>by
  obtain⟨v,l2,rfl,hv,hl⟩:=h.head;simp only[List.all_cons,Bool.and_eq_true]at hf;have e1:=fJ.HO hl hf.2;have e2:v=u:=by
   have hu:=hf.1;cases hv with
   |flat _ _=>rfl
   |zS=>simp[bm]at hu
   |ptr=>simp[bm]at hu
   |gP=>simp[bm]at hu
   |gZ=>simp[bm]at hu
   |kC=>simp[bm]at hu
   |jN=>simp[bm]at hu
   |xk=>simp[bm]at hu
   |yield=>simp[bm]at hu
   |func=>simp[bm]at hu
   |agg=>simp[bm]at hu
   |tuple=>simp[bm]at hu
  rw[e1,e2]
def DT:Value->Bool
 | .tuple vs=>vs.toList.all bm
 |v=>bm v
theorem VG.LS{g:Nat->Option Loc}{v:Value}(h:DT v=true):VG g v v:=by
 unfold DT at h;split at h
 ·exact .tuple _ _ rfl (fJ.flat h).2
 ·exact .flat _ h
def withFn(g0:FuncId)(f:List Value->Option Value)(F:bg):bg:=fun g args h=>
 bif Nat.beq g g0 && args.all bm then
  match f args with
  |some v=>bif DT v then some (v,h)else none
  |none=>none
 else F g args h
theorem vx{g0:FuncId}{f:List Value->Option Value}{F:bg}{g:FuncId}{args:List Value}{h h':af}{v:Value}(hc:withFn g0 f F g args h=some (v,h')) :
  (g=g0/\args.all bm=true/\f args=some v/\DT v=true/\h'=h)\/F g args h=some (v,h'):=by
 unfold withFn at hc;cases hb:(Nat.beq g g0 && args.all bm)with
 |false=>rw[hb]at hc;exact .inr hc
 |true=>
  rw[hb]at hc;simp only[Bool.and_eq_true]at hb;simp only[cond_true]at hc;split at hc
  ·rename_i u hu
   cases hf:DT u with
   |false=>rw[hf]at hc;simp at hc
   |true=>
    rw[hf]at hc;simp only[cond_true,oi,pj]at hc;obtain⟨rfl,rfl⟩:=hc;exact .inl ⟨Nat.eq_of_beq_eq_true hb.1,hb.2,hu,hf,rfl⟩
  ·cases hc
theorem AQ{P:Program}{g0:FuncId}{f:List Value->Option Value}{F:bg}(hf:∀(args:List Value) (v:Value) (w:World),f args=some v->(callFunc g0 args.toArray).run P w=.ok (.value v) w)(hF:dC P F):dC P (withFn g0 f F):=by
 intro g args h v h' hc hg G w aU hR hA;rcases vx hc with ⟨rfl,h1,h2,h3,rfl⟩|hc
 ·right
  rw[hA.HO h1];exact⟨v,w,hf args v w h2,G,.LS h3,.refl hR,.refl _ _⟩
 ·exact hF g args h v h' hc hg G w aU hR hA
theorem vy{g0:FuncId}{f:List Value->Option Value}{F:bg}(hF:aX F):aX (withFn g0 f F):=by
 intro g args h v h' hc;rcases vx hc with ⟨_,_,_,_,rfl⟩|hc
 ·exact .refl _ _
 ·exact hF g args h v h' hc
def yi:List Value->Option Value
 | [.int .u64 x,.int .u64 y,.int .u64 c]=>if 0<=x/\0<=y/\0<=c/\c<=1 then some (.tuple #[.int .u64 ((x+y+c) % 18446744073709551616),.int .u64 ((x+y+c) / 18446744073709551616)])else none
 |_=>none
def LU:Array Value->Sem Value:=fun args=>do
 let (x, y, b) ← Extern.MathBitsCarry.three "Sub64" args
 pure (Extern.MathBitsCarry.pair ((x+Extern.MathBitsCarry.m64-y-b) % Extern.MathBitsCarry.m64) (if x<y+b then 1 else 0))
def uL:List Value->Option Value
 | [.int .u64 x,.int .u64 y,.int .u64 b]=>if 0<=x/\0<=y/\0<=b/\b<=1 then some (.tuple #[.int .u64 (Int.ofNat ((x.toNat+18446744073709551616-y.toNat-b.toNat) % 18446744073709551616)),.int .u64 (Int.ofNat (if x.toNat<y.toNat+b.toNat then 1 else 0))])else none
 |_=>none
theorem tx{P : Program}{g : FuncId}{fn : Func}(hf : P.funcs[g]? = some fn)(cG : (fn.name == "runtime.NumGoroutine") = false)(hb : fn.body.isNone = true)(hn : Extern.findNext fn = none)(he : Extern.find fn = some add64Entry)
  (args:List Value) (v:Value) (w:World) (h:yi args=some v):(callFunc g args.toArray).run P w=.ok (.value v) w:=by
 unfold yi at h;split at h
 ·rename_i x y c
  split at h
  ·rename_i hc
   simp only[oi]at h;subst h;have:=run_callFunc_extern hf cG hb hn he #[.int .u64 x,.int .u64 y,.int .u64 c] w;rw[run_add64 x y c hc.1 hc.2.1 hc.2.2.1 hc.2.2.2]at this;exact this
  ·cases h
 ·cases h
theorem nu{P : Program}{g : FuncId}{fn : Func}(hf : P.funcs[g]? = some fn)(cG : (fn.name == "runtime.NumGoroutine") = false)(hb : fn.body.isNone = true)(hn : Extern.findNext fn = none)(he : Extern.find fn = some LU)
  (args:List Value) (v:Value) (w:World) (h:uL args=some v):(callFunc g args.toArray).run P w=.ok (.value v) w:=by
 unfold uL at h;split at h
 ·rename_i x y b
  split at h
  ·rename_i hc
   simp only[oi]at h;subst h;have:=run_callFunc_extern hf cG hb hn he #[.int .u64 x,.int .u64 y,.int .u64 b] w;have key:(LU #[.int .u64 x,.int .u64 y,.int .u64 b]).run P w=.ok (.tuple #[.int .u64 (Int.ofNat ((x.toNat+18446744073709551616-y.toNat-b.toNat) % 18446744073709551616)),.int .u64 (Int.ofNat (if x.toNat<y.toNat+b.toNat then 1 else 0))]) w:=by
    have vr:b=0\/b=1:=om
    rcases vr with rfl|rfl<;>rfl
   rw[key]at this;exact this
  ·cases h
 ·cases h
end Go.cV
namespace Go.cV
open Go.RowKit
def nA(g0:FuncId)(F:bg):bg:=fun g args h=>
 bif Nat.beq g g0 && args.isEmpty then some (.bool true,h)else F g args h
theorem rR{g0:FuncId}{F:bg}{g:FuncId}{args:List Value}{h h':af}{v:Value}(hc:nA g0 F g args h=some (v,h')) :
  (g=g0/\args=[]/\v=.bool true/\h'=h)\/F g args h=some (v,h'):=by
 unfold nA at hc;cases hb:(Nat.beq g g0 && args.isEmpty)with
 |false=>rw[hb]at hc;exact .inr hc
 |true=>
  rw[hb]at hc;simp only[Bool.and_eq_true,List.isEmpty_iff]at hb;simp only[cond_true,oi,pj]at hc;exact .inl ⟨Nat.eq_of_beq_eq_true hb.1,hb.2,hc.1.symm,hc.2.symm⟩
theorem Good.grown {G : Nat → Option Loc} {h : af} {w w' : World} (hR : HR ⟨G, fun _ => none⟩ (iC h) w) (b : Below w.heap.size w w') : Good ⟨G, fun _ => none⟩ (iC h) w ⟨G, fun _ => none⟩ (iC h) w' := by
  have dW : ∀ id L, G id = some L → L.b < w.heap.size := fun id L hL => by
    obtain ⟨o, h1, _⟩ := hR.dm id L hL
    exact (Array.getElem?_eq_some_iff.1 h1).1
  exact
    { hr :=
        { cU := hR.cU
          dm := fun id L hL => by
            rw [b.block _ (dW id L hL)]; exact hR.dm id L hL
          cK := fun id L b1 hL hm => by
            rw [b.block _ (dW id L hL)]; exact hR.cK id L b1 hL hm
          dn := hR.dn
          fe := (fun t L h => by cases h), dX := (fun t L h => by cases h), ff := (fun t t' L L' h => by cases h), sep := (fun id t L L' _ h => by cases h) }
      mono := fun _ _ h => h
      next := Nat.le_refl _
      low := Nat.le_refl _
      size := b.size
      os := b.os
      tape := b.tape
      output := b.output
      fresh := fun id L h1 h2 => by rw [h2] at h1; cases h1
      cL := fun t L h1 => .inr ⟨t, L, h1, rfl⟩
      frame := fun k hk _ _ => b.block k hk }
theorem DU{P : Program}{g0 : FuncId}{F : bg}{call : cF}(hc : dC P call){fn : Func}(hf : P.funcs[g0]? = some fn)(hb : fn.body.isSome = true)(cG : (fn.name == "runtime.NumGoroutine") = false)(hr : pX (call g0 [] kE) = true)(hF : dC P F) : dC P (nA g0 F) := by
 intro g args h v h' Fo hg G w aU hR hA;rcases rR Fo with ⟨rfl,rfl,rfl,rfl⟩|Fo
 ·left
  rw[hA.iX];refine⟨ia hf hb cG,(Gd hc hf hb cG hr w hg).mono ?_⟩;rintro e w' ⟨rfl,Js⟩;exact⟨_,rfl,G,.flat _ rfl,.grown hR Js,.refl _ _⟩
 ·exact hF g args h v h' Fo hg G w aU hR hA
theorem Aa{g0:FuncId}{F:bg}(hF:aX F):aX (nA g0 F):=by
 intro g args h v h' hc;rcases rR hc with ⟨_,_,_,rfl⟩|hc
 ·exact .refl _ _
 ·exact hF g args h v h' hc
end Go.cV
namespace Go.cV
def oe(c c':cF):Prop:=∀g args h r,c g args h=some r->c' g args h=some r
structure DV(r r':Rec):Prop where
 run:∀f nt c s x,r.run f nt c s=some x->r'.run f nt c s=some x
 loop:∀f nt c kn s x,r.loop f nt c kn s=some x->r'.loop f nt c kn s=some x
 call:oe r.call r'.call
variable{P:Program}{H:Hint}{F:bg}
theorem vz{c c':cF}(h:oe c c'){k:Call}{s:St}{x:Value×St}(hx:jM c k s=some x):jM c' k s=some x:=by
 unfold jM at hx ⊢;split at hx
 ·rename_i g args hg
  split at hx
  ·rename_i v h1 hr
   rw[h _ _ _ _ hr];exact hx
  ·cases hx
 ·cases hx
theorem Jt{c c':cF}(h:oe c c'){f:FuncId}{o:Oper}{s:St}{x:Value×St}(hx:sf P H c f o s=some x):sf P H c' f o s=some x:=by
 unfold sf at hx ⊢;split at hx
 ·exact vz h hx
 ·exact hx
theorem Ju{c c':cF}(h:oe c c'){f:FuncId}{id tag:Nat}{o:Oper}{s:St}{x:Value×St}(hx:jI P H c f id tag o s=some x):jI P H c' f id tag o s=some x:=by
 unfold jI at hx ⊢;split at hx
 ·exact vz h hx
 ·exact hx
theorem qT{c c':cF}(h:oe c c'){f:FuncId}{nt:Nat}{ops:Array Oper}:∀(l:List Oper) (s s':St),lP P H c f nt ops l s=some s'->lP P H c' f nt ops l s=some s'
 | [],s,s',hx=>hx
 |o :: l,s,s',hx=>by
  simp only[lP]at hx ⊢;split at hx
  ·split at hx
   ·rename_i v s1 h1
    rw[Jt h h1];simp only[];split at hx
    ·exact qT h l _ s' hx
    ·cases hx
   ·cases hx
  ·split at hx
   ·exact qT h l _ s' hx
   ·cases hx
  ·cases hx
theorem qU{c c':cF}(h:oe c c'){f:FuncId}{nt:Nat}{ops:Array Oper}{base aP:Nat}:∀(l:List Nat) (i:Nat) (s:St) (r:St×List (Nat×FP×Bool)),rF P H c f nt ops base aP l i s=some r->rF P H c' f nt ops base aP l i s=some r
 | [],i,s,r,hx=>hx
 |p :: l,i,s,r,hx=>by
  simp only[rF]at hx ⊢;split at hx
  ·cases hx
  ·split at hx
   ·split at hx
    ·rename_i v s1 h1
     rw[Ju h h1];simp only[];split at hx
     ·split at hx
      ·rename_i r' iB h2
       rw[qU h l _ _ _ h2];exact hx
      ·cases hx
     ·cases hx
    ·cases hx
   ·split at hx
    ·split at hx
     ·rename_i r' iB h2
      rw[qU h l _ _ _ h2];exact hx
     ·cases hx
    ·cases hx
   ·cases hx
theorem Ge{c c':cF}(h:oe c c'){f:FuncId}{nt:Nat}{ops:Array Oper}{s s':St}(hx:rL P H c f nt ops s=some s'):rL P H c' f nt ops s=some s':=by
 unfold rL at hx ⊢;cases hd:nR ops (fY ops)with
 |false=>rw[hd]at hx;cases hx
 |true=>
  rw[hd]at hx;simp only[cond_true]at hx ⊢;split at hx
  ·rename_i r iB h1
   rw[qU h _ _ _ _ h1];exact hx
  ·cases hx
theorem DW{c c':cF}(h:oe c c'){f:FuncId}{nt:Nat}{x:Operand}{ps:Array Tmp}{assign body:Code}{s:St}{r:Exit×St}(hx:pD P c f nt x ps assign body s=some r):pD P c' f nt x ps assign body s=some r:=by
 unfold pD at hx ⊢;cases hn:(bD assign && bD body)with
 |false=>rw[hn]at hx;cases hx
 |true=>
  rw[hn]at hx;simp only[cond_true]at hx ⊢;split at hx
  ·rename_i g first captured he
   cases hb:(Nat.blt g aW && wq P g)with
   |false=>rw[hb]at hx;cases hx
   |true=>
    rw[hb]at hx;simp only[cond_true]at hx ⊢;split at hx
    ·rename_i v h2 hr
     simp only[h _ _ _ _ hr];exact hx
    ·cases hx
  ·cases hx
theorem DX{run run':FuncId->Nat->Code->St->Option (Exit×St)}(h:∀f nt c s x,run f nt c s=some x->run' f nt c s=some x){y:Nat}{args:List Value}{hp:af}{r:Value×af}(hx:pE run y args hp=some r):pE run' y args hp=some r:=by
 unfold pE at hx ⊢;split at hx
 ·rename_i nQ f nt env ps assign body hm
  cases hb:(Nat.beq args.length ps.length && ps.all (fun t=>Nat.blt t nt) && bD assign && bD body)with
  |false=>rw[hb]at hx;cases hx
  |true=>
   rw[hb]at hx;simp only[cond_true]at hx ⊢;split at hx
   ·rename_i s1 h1
    simp only[h _ _ _ _ _ h1];split at hx
    ·rename_i sW f1 OJ zR OL kW sX Zy
     split at hx
     ·rename_i s2 h2;simp only[h _ _ _ _ _ h2];exact hx
     ·rename_i s2 h2;simp only[h _ _ _ _ _ h2];exact hx
     ·rename_i id s2 h2;simp only[h _ _ _ _ _ h2];exact hx
     ·cases hx
    ·cases hx
   ·cases hx
 ·cases hx
theorem Jv{r r':Rec}(h:DV r r')(f:FuncId)(nt:Nat)(c:Code)(s:St)(x:Exit×St)(hx:nS P H r f nt c s=some x):nS P H r' f nt c s=some x:=by
 unfold nS at hx ⊢;split at hx
 ·exact hx
 ·exact hx
 ·exact hx
 ·rename_i a b
  skip
  split at hx
  ·rename_i s1 ha
   rw[h.run _ _ _ _ _ ha];exact h.run _ _ _ _ _ hx
  ·rename_i hn
   rw[h.run _ _ _ _ _ hx];obtain⟨e,s1⟩:=x;cases e<;>first|rfl|exact absurd hx (hn _)
 ·skip
  split at hx
  ·exact h.run _ _ _ _ _ hx
  ·cases hx
 ·rename_i id b
  skip
  split at hx
  ·rename_i pF s1 hb
   rw[h.run _ _ _ _ _ hb];exact hx
  ·rename_i hn
   rw[h.run _ _ _ _ _ hx];obtain⟨e,s1⟩:=x;cases e<;>first|rfl|exact absurd hx (hn _ _)
 ·exact h.loop _ _ _ _ _ _ hx
 ·rename_i id ops draw
  skip
  cases draw with
  |true=>
   simp only[cond_true]at hx ⊢;split at hx
   ·rename_i s1 h1
    rw[Ge h.call h1];exact hx
   ·cases hx
  |false=>
   simp only[cond_false]at hx ⊢;split at hx
   ·rename_i s1 h1
    rw[qT h.call _ _ _ h1];exact hx
   ·cases hx
 ·exact DW h.call hx
 ·cases hx
theorem Gg{r r':Rec}(h:DV r r')(f:FuncId)(nt:Nat)(c:Code)(kn:Nat)(s:St)(x:Exit×St)(hx:pG H r f nt c kn s=some x):pG H r' f nt c kn s=some x:=by
 unfold pG at hx ⊢;split at hx
 ·cases hx
 ·skip
  split at hx
  ·rename_i s2 hb
   rw[h.run _ _ _ _ _ hb];exact h.loop _ _ _ _ _ _ hx
  ·rename_i hn
   rw[h.run _ _ _ _ _ hx];obtain⟨e,s1⟩:=x;cases e<;>first|rfl|exact absurd hx (hn _)
theorem Gh{r r':Rec}(h:DV r r'):oe (oR P F r) (oR P F r'):=by
 intro g args hp x hx;unfold oR at hx ⊢;cases hy:Nat.ble aW g with
 |true=>rw[hy]at hx;exact DX h.run hx
 |false=>
 rw[hy]at hx;simp only[cond_false]at hx ⊢;split at hx
 ·exact hx
 ·skip
  split at hx
  ·split at hx
   ·skip
    split at hx
    ·rename_i s1 h1;rw[h.run _ _ _ _ _ h1];exact hx
    ·rename_i s1 h1;rw[h.run _ _ _ _ _ h1];exact hx
    ·cases hx
   ·cases hx
  ·cases hx
theorem og:∀n,DV (cE P H F n) (cE P H F (n+1))
 |0=>⟨fun f nt c s x h=>(by cases h),fun f nt c kn s x h=>(by cases h),fun g args h r hc=>(by cases hc)⟩
 |n+1=>⟨Jv (og n),Gg (og n),Gh (og n)⟩
theorem ko{n m:Nat}(h:n<=m):DV (cE P H F n) (cE P H F m):=by
 induction h with
 |refl=>exact⟨fun _ _ _ _ _ h=>h,fun _ _ _ _ _ _ h=>h,fun _ _ _ _ h=>h⟩
 |step _ ih=>
  have:=og (P:=P) (H:=H) (F:=F) ‹Nat›;exact⟨fun f nt c s x h=>this.run _ _ _ _ _ (ih.run _ _ _ _ _ h),fun f nt c kn s x h=>this.loop _ _ _ _ _ _ (ih.loop _ _ _ _ _ _ h),fun g args h r hc=>this.call _ _ _ _ (ih.call _ _ _ _ hc)⟩
def pY(P:Program)(H:Hint)(F:bg)(f:FuncId)(nt:Nat)(c:Code)(s:St)(x:Exit)(s':St):Prop:=∃n,(cE P H F n).run f nt c s=some (x,s')
def Loop(P:Program)(H:Hint)(F:bg)(f:FuncId)(nt:Nat)(c:Code)(kn:Nat)(s:St)(x:Exit)(s':St):Prop:=∃n,(cE P H F n).loop f nt c kn s=some (x,s')
def OP(P:Program)(H:Hint)(F:bg)(g:FuncId)(args:List Value)(h:af)(v:Value)(h':af):Prop:=∃n,(cE P H F n).call g args h=some (v,h')
theorem pY.skip{f:FuncId}{nt:Nat}{s:St}:pY P H F f nt .skip s .normal s:=⟨1,rfl⟩
theorem pY.ret{f:FuncId}{nt:Nat}{s:St}:pY P H F f nt .ret s .ret s:=⟨1,rfl⟩
theorem pY.exit{f:FuncId}{nt:Nat}{s:St}{id:Nat}:pY P H F f nt (.exit id) s (.exit id) s:=⟨1,rfl⟩
theorem pY.seq{f:FuncId}{nt:Nat}{a b:Code}{s s1 s2:St}{x:Exit}(h1:pY P H F f nt a s .normal s1)(h2:pY P H F f nt b s1 x s2):pY P H F f nt (.seq a b) s x s2:=by
 obtain⟨n,h1⟩:=h1;obtain⟨m,h2⟩:=h2;refine⟨max n m+1,?_⟩;show nS P H (cE P H F (max n m)) f nt (.seq a b) s=_;unfold nS;simp only[(ko (Nat.le_max_left n m)).run _ _ _ _ _ h1];exact(ko (Nat.le_max_right n m)).run _ _ _ _ _ h2
theorem pY.SV{f:FuncId}{nt:Nat}{a b:Code}{s s1:St}{x:Exit}(h1:pY P H F f nt a s x s1)(hx:x≠.normal):pY P H F f nt (.seq a b) s x s1:=by
 obtain⟨n,h1⟩:=h1;refine⟨n+1,?_⟩;show nS P H (cE P H F n) f nt (.seq a b) s=_;unfold nS;simp only[h1];cases x<;>first|rfl|exact absurd rfl hx
theorem pY.cond{f:FuncId}{nt:Nat}{y:Operand}{a b:Code}{s s1:St}{x:Exit}{t:Bool}(hc:bJ s y=some (.bool t))(h:pY P H F f nt (bif t then a else b) s x s1):pY P H F f nt (.cond y a b) s x s1:=by
 obtain⟨n,h⟩:=h;refine⟨n+1,?_⟩;show nS P H (cE P H F n) f nt (.cond y a b) s=_;unfold nS;simp only[hc];exact h
theorem pY.block{f:FuncId}{nt id:Nat}{b:Code}{s s1:St}{x:Exit}(h:pY P H F f nt b s x s1):pY P H F f nt (.block id b) s (match x with | .exit pF=>bif Nat.beq pF id then .normal else .exit pF|x=>x) s1:=by
 obtain⟨n,h⟩:=h;refine⟨n+1,?_⟩;show nS P H (cE P H F n) f nt (.block id b) s=_;unfold nS;simp only[h];cases x with
 |exit pF=>simp only[];cases Nat.beq pF id<;>rfl
 |_=>rfl
theorem pY.loop{f:FuncId}{nt:Nat}{b:Code}{s s1:St}{x:Exit}(h:Loop P H F f nt b s.kn s x s1):pY P H F f nt (.loop b) s x s1:=by
 obtain⟨n,h⟩:=h;exact⟨n+1,h⟩
theorem OP.body{g:FuncId}{fn:Func}{c:Code}{args:List Value}{h h':af}{v:Value}{x:Exit}{s':St}(hF:F g args h=none)(hg:g<aW)(hf:P.funcs[g]?=some fn)(hb:fn.body=some c)
  (hr:pY P H F g fn.ntmps c { env:=fM args 0 .leaf,kn:=0,K:=.leaf,h:=h } x s') (hx:x=.normal\/x=.ret) (he:vV P fn s'=some (v,h')):OP P H F g args h v h':=by
 obtain⟨n,hr⟩:=hr;refine⟨n+1,?_⟩;show oR P F (cE P H F n) g args h=_;unfold oR;simp only[show Nat.ble aW g=false from ft hg,cond_false,hF,hf,hb,hr];rcases hx with rfl|rfl<;>exact he
theorem OP.ok(hm : P.follows .mixedOrders = true)(hF : dC P F)(Re : aX F)(cG : ∀ (g : FuncId) (fn : Func), P.funcs[g]? = some fn → (fn.name == "runtime.NumGoroutine") = false){g : FuncId}{args : List Value}{h h' : af}{v : Value}(hr : OP P H F g args h v h')(hg : g < aW){G : Nat → Option Loc}{w : World}{aU : List Value}
  (hR:HR ⟨G,fun _=>none⟩ (iC h) w) (hA:fJ G args aU) :
  te P g aU.toArray w (fun c w'=>∃G',VG G' v c/\Good ⟨G,fun _=>none⟩ (iC h) w ⟨G',fun _=>none⟩ (iC h') w'/\fG (h.next<=·) G G'):=by
 obtain⟨n,hr⟩:=hr;exact(tu hm hF Re cG n).2.2.1 g args h v h' hr hg G w aU hR hA
