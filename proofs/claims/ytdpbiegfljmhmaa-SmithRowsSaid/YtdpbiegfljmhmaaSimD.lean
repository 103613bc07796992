import Derived.Test.YtdpbiegfljmhmaaSimC
import Derived.Below
import Derived.Laws.Externs
set_option linter.unusedSimpArgs false
set_option linter.unusedVariables false
namespace Go.Proofs.Ytdpbiegfljmhmaa.Ext
abbrev aS:=Nat->Int
abbrev Om:=List Bool->Int
def aZ:Nat->aS->Om->Om
 |0,_,_,_=>0
 |_+1,_,_,[]=>0
 |m+1,v,w,false :: I=>aZ m v (fun J=>w (false :: J)) I
 |m+1,v,w,true :: I=>v m*w (false :: I)-aZ m v (fun J=>w (true :: J)) I
theorem mJ:∀(m:Nat) {u v:aS} (w:Om) (I:List Bool),(∀i,i<m->u i=v i)->aZ m u w I=aZ m v w I
 |0,_,_,_,_,_=>rfl
 |_+1,_,_,_,[],_=>rfl
 |m+1,u,v,w,false :: I,h=>mJ m _ I (fun i hi=>h i om)
 |m+1,u,v,w,true :: I,h=>by
  show u m*_-aZ m u _ I=v m*_-aZ m v _ I;rw[mJ m _ I (fun i hi=>h i om),h m om]
theorem iU:∀(m:Nat) (v:aS) (I:List Bool),aZ m v (fun _=>0) I=0
 |0,_,_=>rfl
 |_+1,_,[]=>rfl
 |m+1,v,false :: I=>iU m v I
 |m+1,v,true :: I=>by
  show v m*0-aZ m v (fun _=>0) I=0;rw[iU m v I];omega
theorem je:∀(m:Nat) (v:aS) (a b:Int) (w z:Om) (I:List Bool),aZ m v (fun J=>a*w J+b*z J) I=a*aZ m v w I+b*aZ m v z I
 |0,v,a,b,w,z,I=>by show(0:Int)=a*0+b*0;omega
 |_+1,v,a,b,w,z,[]=>by show(0:Int)=a*0+b*0;omega
 |m+1,v,a,b,w,z,false :: I=>je m v a b _ _ I
 |m+1,v,a,b,w,z,true :: I=>by
  show v m*(a*w (false :: I)+b*z (false :: I))-aZ m v (fun J=>a*w (true :: J)+b*z (true :: J)) I=a*(v m*w (false :: I)-aZ m v (fun J=>w (true :: J)) I)+b*(v m*z (false :: I)-aZ m v (fun J=>z (true :: J)) I);rw[je m v a b _ _ I];grind
theorem nG:∀(m:Nat) (u v:aS) (a b:Int) (w:Om) (I:List Bool),aZ m (fun i=>a*u i+b*v i) w I=a*aZ m u w I+b*aZ m v w I
 |0,u,v,a,b,w,I=>by show(0:Int)=a*0+b*0;omega
 |_+1,u,v,a,b,w,[]=>by show(0:Int)=a*0+b*0;omega
 |m+1,u,v,a,b,w,false :: I=>nG m u v a b _ I
 |m+1,u,v,a,b,w,true :: I=>by
  show(a*u m+b*v m)*w (false :: I)-aZ m (fun i=>a*u i+b*v i) _ I=a*(u m*w (false :: I)-aZ m u _ I)+b*(v m*w (false :: I)-aZ m v _ I);rw[nG m u v a b _ I];grind
theorem lD:∀(m:Nat) (v:aS) (w:Om) (I:List Bool),aZ m v (aZ m v w) I=0
 |0,_,_,_=>rfl
 |_+1,_,_,[]=>rfl
 |m+1,v,w,false :: I=>lD m v (fun J=>w (false :: J)) I
 |m+1,v,w,true :: I=>by
  show v m*aZ m v (fun J=>w (false :: J)) I-aZ m v (fun J=>v m*w (false :: J)-aZ m v (fun K=>w (true :: K)) J) I=0;have e:(fun J=>v m*w (false :: J)-aZ m v (fun K=>w (true :: K)) J)=(fun J=>v m*w (false :: J)+(-1)*aZ m v (fun K=>w (true :: K)) J):=by funext J;omega
  rw[e,je m v (v m) (-1) (fun J=>w (false :: J)) (aZ m v (fun K=>w (true :: K))) I,lD m v _ I];omega
theorem yE(m:Nat)(u v:aS)(w:Om)(I:List Bool):aZ m u (aZ m v w) I=-aZ m v (aZ m u w) I:=by
 have h:=lD m (fun i=>1*u i+1*v i) w I;have e:aZ m (fun i=>1*u i+1*v i) w=fun J=>1*aZ m u w J+1*aZ m v w J:=by funext J;exact nG m u v 1 1 w J
 rw[e,nG m u v 1 1,je m u 1 1 (aZ m u w) (aZ m v w) I,je m v 1 1 (aZ m u w) (aZ m v w) I,lD,lD]at h;omega
def unit:Om:=fun I=>if I.all (fun b=>!b)then 1 else 0
def prod(m:Nat)(W:Nat->aS):Nat->Om
 |0=>unit
 |k+1=>aZ m (W k) (prod m W k)
def top(m:Nat):List Bool:=List.replicate m true
def vol(m:Nat)(W:Nat->aS):Int:=prod m W m (top m)
def put(W:Nat->aS)(i:Nat)(a:aS):Nat->aS:=fun k=>if k=i then a else W k
theorem fY{m:Nat}{W V:Nat->aS}:∀(k:Nat),(∀j,j<k->∀i,i<m->W j i=V j i)->prod m W k=prod m V k
 |0,_=>rfl
 |k+1,h=>by
  funext I
  show aZ m (W k) (prod m W k) I=aZ m (V k) (prod m V k) I;rw[fY k (fun j hj=>h j om),mJ m _ I (h k om)]
theorem yF{m:Nat}{W:Nat->aS}{k:Nat}:∀(d:Nat) (I:List Bool),aZ m (W k) (prod m W (k+1+d)) I=0
 |0,I=>lD m (W k) (prod m W k) I
 |d+1,I=>by
  show aZ m (W k) (aZ m (W (k+1+d)) (prod m W (k+1+d))) I=0;rw[yE];have e:aZ m (W k) (prod m W (k+1+d))=fun _=>0:=by funext J;exact yF d J
  rw[e,iU];rfl
theorem A7{m:Nat}{W:Nat->aS}{k:Nat}(h:prod m W k=fun _=>0):∀d,prod m W (k+d)=fun _=>0
 |0=>h
 |d+1=>by
  funext I
  show aZ m (W (k+d)) (prod m W (k+d)) I=0;rw[A7 h d,iU]
theorem DY{m:Nat}{W:Nat->aS}{i:Nat}{a b:aS}{x y:Int}:∀(d:Nat),prod m (put W i (fun r=>x*a r+y*b r)) (i+1+d)=fun I=>x*prod m (put W i a) (i+1+d) I+y*prod m (put W i b) (i+1+d) I
 |0=>by
  have pre:∀c,prod m (put W i c) i=prod m W i:=fun c=>fY i (fun j hj r hr=>by unfold put;rw[if_neg om])
  funext I
  show aZ m (put W i (fun r=>x*a r+y*b r) i) (prod m (put W i (fun r=>x*a r+y*b r)) i) I=x*aZ m (put W i a i) (prod m (put W i a) i) I+y*aZ m (put W i b i) (prod m (put W i b) i) I;rw[pre,pre,pre];have e:∀c,put W i c i=c:=fun c=>by unfold put;rw[if_pos rfl]
  rw[e,e,e,nG]
 |d+1=>by
  funext I
  show aZ m (put W i (fun r=>x*a r+y*b r) (i+1+d)) (prod m (put W i (fun r=>x*a r+y*b r)) (i+1+d)) I=x*aZ m (put W i a (i+1+d)) (prod m (put W i a) (i+1+d)) I+y*aZ m (put W i b (i+1+d)) (prod m (put W i b) (i+1+d)) I;have e:∀c,put W i c (i+1+d)=W (i+1+d):=fun c=>by unfold put;rw[if_neg om]
  rw[e,e,e,DY d,je]
def aV(f:Nat->Int):Nat->Int
 |0=>0
 |k+1=>aV f k+f k
theorem aN{f g:Nat->Int}:∀(n:Nat),(∀k,k<n->f k=g k)->aV f n=aV g n
 |0,_=>rfl
 |n+1,h=>by show aV f n+f n=aV g n+g n;rw[aN n (fun k hk=>h k om),h n om]
theorem jv(c:Int)(f:Nat->Int):∀n,aV (fun k=>c*f k) n=c*aV f n
 |0=>by show(0:Int)=c*0;omega
 |n+1=>by show aV (fun k=>c*f k) n+c*f n=c*(aV f n+f n);rw[jv c f n,Int.mul_add]
theorem qq(f g:Nat->Int):∀n,aV (fun k=>f k+g k) n=aV f n+aV g n
 |0=>rfl
 |n+1=>by show aV (fun k=>f k+g k) n+(f n+g n)=aV f n+f n+(aV g n+g n);rw[qq f g n];omega
theorem ic{f:Nat->Int}{i:Nat}:∀(n:Nat),i<n->(∀k,k<n->k≠i->f k=0)->aV f n=f i
 |0,h,_=>om
 |n+1,h,z=>by
  show aV f n+f n=f i;by_cases e:i=n
  ·subst e
   rw[aN (g:=fun _=>0) i (fun k hk=>z k om om)];have:∀n,aV (fun _=>0) n=0:=fun n=>by induction n with|zero=>rfl|succ n ih=>show aV _ n+0=0;rw[ih];rfl
   rw[this];omega
  ·rw[ic n om (fun k hk=>z k om),z n om om];omega
theorem jw{W:Nat->aS}{i:Nat}:put W i (W i)=W:=by
 funext k;unfold put;split
 ·rename_i e;rw[e]
 ·rfl
def E(i:Nat):aS:=fun r=>if r=i then 1 else 0
theorem yG{m:Nat}{W:Nat->aS}:∀(k:Nat),(∀j,j<k->W j m=0)->(∀I,prod (m+1) W k (false :: I)=prod m W k I)/\(∀I,prod (m+1) W k (true :: I)=0)
 |0,_=>⟨fun I=>rfl,fun I=>rfl⟩
 |k+1,h=>by
  obtain⟨h1,h2⟩:=yG k (fun j hj=>h j om);have e1:(fun J=>prod (m+1) W k (false :: J))=prod m W k:=funext h1;have e2:(fun J=>prod (m+1) W k (true :: J))=fun _=>0:=funext h2
  constructor
  ·intro I
   show aZ m (W k) (fun J=>prod (m+1) W k (false :: J)) I=aZ m (W k) (prod m W k) I;rw[e1]
  ·intro I
   show W k m*prod (m+1) W k (false :: I)-aZ m (W k) (fun J=>prod (m+1) W k (true :: J)) I=0;rw[e2,iU,h k om];omega
theorem DZ:∀m,vol m E=1
 |0=>rfl
 |m+1=>by
  obtain⟨h1,h2⟩:=yG (m:=m) (W:=E) m (fun j hj=>by unfold E;rw[if_neg om]);have e2:(fun J=>prod (m+1) E m (true :: J))=fun _=>0:=funext h2
  show E m m*prod (m+1) E m (false :: top m)-aZ m (E m) (fun J=>prod (m+1) E m (true :: J)) (top m)=1;rw[e2,iU,h1];have:prod m E m (top m)=1:=DZ m;rw[this];unfold E;rw[if_pos rfl];rfl
def vn:Nat->aS->Nat
 |0,_=>0
 |m+1,v=>vn m v+(v m).natAbs
end Go.Proofs.Ytdpbiegfljmhmaa.Ext
namespace Go.Proofs.Ytdpbiegfljmhmaa.Ext
def gL(v:aS):Nat->Nat->Nat
 |0,k=>k
 |f+1,k=>if v k≠0 then k else gL v f (k+1)
def aj(w:Nat)(v:aS):Nat:=gL v w 0
theorem jZ(v:aS):∀(f k:Nat),k<=gL v f k/\gL v f k<=k+f/\(∀j,k<=j->j<gL v f k->v j=0)/\(gL v f k<k+f->v (gL v f k)≠0)
 |0,k=>⟨Nat.le_refl _,Nat.le_refl _,fun j h1 h2=>by simp only[gL]at h2;omega,fun h=>by simp only[gL]at h;omega⟩
 |f+1,k=>by
  by_cases c:v k≠0
  ·have e:gL v (f+1) k=k:=by show(if v k≠0 then k else _)=k;rw[if_pos c]
   rw[e];exact⟨Nat.le_refl _,om,fun j h1 h2=>om,fun _=>c⟩
  ·have e:gL v (f+1) k=gL v f (k+1):=by show(if v k≠0 then k else _)=_;rw[if_neg c]
   rw[e];obtain⟨h1,h2,h3,h4⟩:=jZ v f (k+1);refine⟨om,om,fun j j1 j2=>?_,fun h=>h4 om⟩;by_cases e2:j=k
   ·subst e2;exact Classical.not_not.1 c
   ·exact h3 j om j2
theorem nH(w:Nat)(v:aS):aj w v<=w:=by have:=(jZ v w 0).2.1;unfold aj;omega
theorem bD{w:Nat}{v:aS}{j:Nat}(h:j<aj w v):v j=0:=(jZ v w 0).2.2.1 j (Nat.zero_le _) h
theorem lU{w:Nat}{v:aS}(h:aj w v<w):v (aj w v)≠0:=(jZ v w 0).2.2.2 (by unfold aj at h;omega)
theorem iI{w c:Nat}{v:aS}(hc:c<=w)(hz:∀j,j<c->v j=0)(hn:c<w->v c≠0):aj w v=c:=by
 rcases Nat.lt_trichotomy (aj w v) c with h|h|h
 ·exact absurd (hz _ h) (lU om)
 ·exact h
 ·exact absurd (bD h) (hn (by have:=nH w v;omega))
def Sp(w k:Nat)(F:Nat->aS)(v:aS):Prop:=∃y:Nat->Int,∀j,j<w->v j=aV (fun i=>y i*F i j) k
theorem Sp.congr{w k:Nat}{F:Nat->aS}{u v:aS}(h:Sp w k F u)(e:∀j,j<w->u j=v j):Sp w k F v:=by
 obtain⟨y,hy⟩:=h;exact⟨y,fun j hj=>by rw[<-e j hj];exact hy j hj⟩
theorem rB(n:Nat):aV (fun _=>0) n=0:=by induction n with|zero=>rfl|succ n ih=>show aV _ n+0=0;rw[ih];rfl
theorem Sp.row{w k:Nat}(F:Nat->aS){i:Nat}(hi:i<k):Sp w k F (F i):=by
 refine⟨fun j=>if j=i then 1 else 0,fun j _=>?_⟩;show F i j=aV (fun m=>(if m=i then 1 else 0)*F m j) k;rw[ic (i:=i) k hi (fun m _ hm=>by show(if m=i then 1 else 0)*F m j=0;rw[if_neg hm];omega)];show F i j=(if i=i then 1 else 0)*F i j;rw[if_pos rfl];omega
theorem Sp.zero(w k:Nat)(F:Nat->aS):Sp w k F (fun _=>0):=⟨fun _=>0,fun j _=>by
 show(0:Int)=aV (fun i=>0*F i j) k;rw[aN (g:=fun _=>0) k (fun i _=>by show 0*F i j=0;omega),rB]⟩
theorem Sp.comb{w k:Nat}{F:Nat->aS}{u v:aS}(a b:Int)(hu:Sp w k F u)(hv:Sp w k F v):Sp w k F (fun j=>a*u j+b*v j):=by
 obtain⟨y,hy⟩:=hu;obtain⟨z,hz⟩:=hv;refine⟨fun i=>a*y i+b*z i,fun j hj=>?_⟩;show a*u j+b*v j=aV (fun i=>(a*y i+b*z i)*F i j) k;rw[hy j hj,hz j hj,<-jv,<-jv,<-qq];exact aN k (fun i _=>by rw[Int.add_mul,Int.mul_assoc,Int.mul_assoc])
theorem Sp.sum{w k:Nat}{F:Nat->aS}(y:Nat->Int)(G:Nat->aS):∀n,(∀i,i<n->Sp w k F (G i))->Sp w k F (fun j=>aV (fun i=>y i*G i j) n)
 |0,_=>Sp.zero w k F
 |n+1,h=>(Sp.comb 1 (y n) (Sp.sum y G n (fun i hi=>h i om)) (h n om)).congr (fun j _=>by show 1*aV (fun i=>y i*G i j) n+y n*G n j=aV (fun i=>y i*G i j) n+y n*G n j;omega)
theorem Sp.le{w k k':Nat}{F F':Nat->aS}(h:∀i,i<k'->Sp w k F (F' i)){v:aS}(hv:Sp w k' F' v):Sp w k F v:=by
 obtain⟨y,hy⟩:=hv;exact(Sp.sum y F' k' h).congr (fun j hj=>(hy j hj).symm)
structure GC(w k:Nat)(F:Nat->aS):Prop where
 lt:∀i,i<k->aj w (F i)<w
 pos:∀i,i<k->0<F i (aj w (F i))
 inc:∀i j,i<j->j<k->aj w (F i)<aj w (F j)
 red:∀i j,i<j->j<k->0<=F i (aj w (F j))/\F i (aj w (F j))<F j (aj w (F j))
structure pJ(w k:Nat)(F:Nat->aS):Prop where
 lt:∀i,i<k->aj w (F i)<w
 pos:∀i,i<k->0<F i (aj w (F i))
 inc:∀i j,i<j->j<k->aj w (F i)<aj w (F j)
theorem GC.gJ{w k:Nat}{F:Nat->aS}(h:GC w k F):pJ w k F:=⟨h.lt,h.pos,h.inc⟩
theorem JM{f:Nat->Int}{i:Nat}:∀(n:Nat),i<n->(∀k,k<i->f k=0)->(∀k,i<k->k<n->f k=0)->aV f n=f i
 |n,h,z1,z2=>ic n h (fun k hk ff=>by rcases Nat.lt_or_gt_of_ne ff with q|q;exact z1 k q;exact z2 k q hk)
theorem PS{p:Nat->Nat}{k:Nat}(h:∀i j,i<j->j<k->p i<p j){i j:Nat}(hi:i<k)(hj:j<k)(e:p i=p j):i=j:=by
 rcases Nat.lt_trichotomy i j with q|q|q
 ·have:=h i j q hj;omega
 ·exact q
 ·have:=h j i q hi;omega
end Go.Proofs.Ytdpbiegfljmhmaa.Ext
namespace Go.Proofs.Ytdpbiegfljmhmaa.Ext
def s7:List Bool->Nat
 | []=>0
 |true :: I=>s7 I+1
 |false :: I=>s7 I
theorem B7:∀m,s7 (top m)=m
 |0=>rfl
 |m+1=>by show s7 (top m)+1=m+1;rw[B7 m]
theorem yH{a b:Int}{A B:Nat}(ha:a.natAbs<=A)(hb:b.natAbs<=B):(a*b).natAbs<=A*B:=by
 rw[Int.natAbs_mul];exact Nat.mul_le_mul ha hb
theorem yI:∀(m:Nat) (v:aS) (w:Om) (I:List Bool) (B:Nat),(∀J,s7 J+1=s7 I->(w J).natAbs<=B)->(aZ m v w I).natAbs<=vn m v*B
 |0,v,w,I,B,h=>by show(0:Int).natAbs<=_;simp
 |m+1,v,w,[],B,h=>by show(0:Int).natAbs<=_;simp
 |m+1,v,w,false :: I,B,h=>by
  have:=yI m v (fun J=>w (false :: J)) I B (fun J hJ=>h (false :: J) hJ);show(aZ m v (fun J=>w (false :: J)) I).natAbs<=(vn m v+(v m).natAbs)*B;rw[Nat.add_mul];omega
 |m+1,v,w,true :: I,B,h=>by
  have h1:=yI m v (fun J=>w (true :: J)) I B (fun J hJ=>h (true :: J) (by show s7 J+1+1=s7 I+1;omega));have h2:(v m*w (false :: I)).natAbs<=(v m).natAbs*B:=yH (Nat.le_refl _) (h (false :: I) rfl);show(v m*w (false :: I)-aZ m v (fun J=>w (true :: J)) I).natAbs<=(vn m v+(v m).natAbs)*B;rw[Nat.add_mul];omega
theorem u6:∀(m:Nat) (v:aS) (w:Om) (I:List Bool) (M B:Nat),(∀i,i<m->(v i).natAbs<=M)->(∀J,s7 J+1=s7 I->(w J).natAbs<=B)->(aZ m v w I).natAbs<=s7 I*(M*B)
 |0,v,w,I,M,B,_,_=>by show(0:Int).natAbs<=_;simp
 |m+1,v,w,[],M,B,_,_=>by show(0:Int).natAbs<=_;simp
 |m+1,v,w,false :: I,M,B,hv,h=>u6 m v (fun J=>w (false :: J)) I M B (fun i hi=>hv i om) (fun J hJ=>h (false :: J) hJ)
 |m+1,v,w,true :: I,M,B,hv,h=>by
  have h1:=u6 m v (fun J=>w (true :: J)) I M B (fun i hi=>hv i om) (fun J hJ=>h (true :: J) (by show s7 J+1+1=s7 I+1;omega));have h2:(v m*w (false :: I)).natAbs<=M*B:=yH (hv m om) (h (false :: I) rfl);show(v m*w (false :: I)-aZ m v (fun J=>w (true :: J)) I).natAbs<=(s7 I+1)*(M*B);rw[Nat.add_mul];omega
def tG:Nat->Nat->Nat
 |_,0=>1
 |c,k+1=>c*tG (c-1) k
theorem yJ{m:Nat}{W:Nat->aS}{M:Nat}:∀(k:Nat),(∀y,y<k->∀i,i<m->(W y i).natAbs<=M)->∀I,(prod m W k I).natAbs<=tG (s7 I) k*M ^ k
 |0,_,I=>by
  show(unit I).natAbs<=1*1;unfold unit;split<;>simp
 |k+1,h,I=>by
  have:=u6 m (W k) (prod m W k) I M (tG (s7 I-1) k*M ^ k) (h k om) (fun J hJ=>by
   have:=yJ k (fun y hy=>h y om) J;rw[show s7 I-1=s7 J by omega];exact this)
  show(aZ m (W k) (prod m W k) I).natAbs<=s7 I*tG (s7 I-1) k*M ^ (k+1);rw[Nat.pow_succ];have e:s7 I*(M*(tG (s7 I-1) k*M ^ k))=s7 I*tG (s7 I-1) k*(M ^ k*M):=by
   rw[Nat.mul_comm M,Nat.mul_assoc,Nat.mul_assoc]
  omega
theorem yK{m n:Nat}{W:Nat->aS}{i k:Nat}(hi:i<n)(hk:k<n)(ff:i≠k)(e:∀r,r<m->W i r=W k r):prod m W n=fun _=>0:=by
 have one:∀{i k:Nat},i<n->k<i->(∀r,r<m->W i r=W k r)->prod m W n=fun _=>0:=by
  intro i k hi hk e;have h:prod m W (i+1)=fun _=>0:=by
   funext I
   show aZ m (W i) (prod m W i) I=0;rw[mJ m _ I e,show i=k+1+(i-(k+1)) by omega];exact yF _ I
  have:=A7 h (n-(i+1));rw[show i+1+(n-(i+1))=n by omega]at this;exact this
 rcases Nat.lt_or_gt_of_ne ff with q|q
 ·exact one hk q (fun r hr=>(e r hr).symm)
 ·exact one hi q e
theorem qs{m n:Nat}{W:Nat->aS}{i:Nat}(hi:i<n)(a b:aS)(x y:Int)(I:List Bool):prod m (put W i (fun r=>x*a r+y*b r)) n I=x*prod m (put W i a) n I+y*prod m (put W i b) n I:=by
 have:=DY (m:=m) (W:=W) (i:=i) (a:=a) (b:=b) (x:=x) (y:=y) (n-(i+1));rw[show i+1+(n-(i+1))=n by omega]at this;rw[this]
theorem JN{m n:Nat}{W:Nat->aS}{i:Nat}(hi:i<n)(hz:∀r,r<m->W i r=0)(I:List Bool):prod m W n I=0:=by
 have:=qs (m:=m) (W:=W) hi (W i) (W i) 0 0 I;rw[fY (W:=put W i (fun r=>0*W i r+0*W i r)) (V:=W) n (fun j hj r hr=>by
  unfold put;split
  ·rename_i e;rw[e];show 0*W i r+0*W i r=W i r;rw[hz r hr];rfl
  ·rfl)]at this
 omega
theorem Mf{m n:Nat}{W:Nat->aS}{r y:Nat}(hr:r<n)(hy:y<n)(ff:r≠y)(t:Int)(I:List Bool):prod m (put W r (fun j=>W r j-t*W y j)) n I=prod m W n I:=by
 have e:(fun j=>W r j-t*W y j)=(fun j=>1*W r j+(-t)*W y j):=by funext j;rw[Int.neg_mul];omega
 rw[e,qs hr,jw,yK (W:=put W r (W y)) hr hy ff (fun j _=>by unfold put;rw[if_pos rfl,if_neg om])];show 1*prod m W n I + -t*0=prod m W n I;omega
theorem oC{W:Nat->aS}{i k:Nat}(h:i≠k)(a b:aS):put (put W i a) k b=put (put W k b) i a:=by
 funext j;unfold put
 by_cases h1:j=k
 ·rw[if_pos h1]
  by_cases h2:j=i
  ·omega
  ·rw[if_neg h2,if_pos h1]
 ·rw[if_neg h1]
  by_cases h2:j=i
  ·rw[if_pos h2,if_pos h2]
  ·rw[if_neg h2,if_neg h2,if_neg h1]
theorem jx{W:Nat->aS}{i:Nat}(a b:aS):put (put W i a) i b=put W i b:=by
 funext j;unfold put;split<;>rfl
theorem JO{m n:Nat}{W:Nat->aS}{i k:Nat}(hi:i<n)(hk:k<n)(ff:i≠k)(I:List Bool):prod m (put (put W i (W k)) k (W i)) n I=-prod m W n I:=by
 let P:aS->aS->Int:=fun a b=>prod m (put (put W i a) k b) n I
 have two:∀a,P a a=0:=fun a=>by
  show prod m (put (put W i a) k a) n I=0;rw[yK (W:=put (put W i a) k a) hi hk ff (fun r _=>by unfold put;rw[if_neg ff,if_pos rfl,if_pos rfl])]
 have aam:∀a a' b,P (fun r=>1*a r+1*a' r) b=1*P a b+1*P a' b:=fun a a' b=>by
  show prod m (put (put W i _) k b) n I=_;rw[oC ff,qs hi,<-oC ff,<-oC ff]
 have WA:∀a b b',P a (fun r=>1*b r+1*b' r)=1*P a b+1*P a b':=fun a b b'=>qs hk _ _ _ _ _
 have h:=two (fun r=>1*W i r+1*W k r);rw[aam,WA,WA,two,two]at h;have e1:P (W i) (W k)=prod m W n I:=by
  show prod m (put (put W i (W i)) k (W k)) n I=_;rw[jw,jw]
 have e2:P (W k) (W i)=prod m (put (put W i (W k)) k (W i)) n I:=rfl;omega
theorem Mg{m n:Nat}{W:Nat->aS}{i:Nat}(hi:i<n)(I:List Bool):prod m (put W i (fun r=>-(W i r))) n I=-prod m W n I:=by
 have e:(fun r=>-(W i r))=(fun r=>(-1)*W i r+0*W i r):=by funext r;omega
 rw[e,qs hi,jw];omega
def rv(k:Nat)(F:Nat->aS)(J:Nat->Nat):Nat->aS:=fun y i=>F (k-1-y) (J i)
structure kX(w k:Nat)(F F0:Nat->aS):Prop where
 le:∀i,i<k->Sp w k F0 (F i)
 ge:∀i,i<k->Sp w k F (F0 i)
 JP:∃s:Int,(s=1\/s=-1)/\∀d J I,prod d (rv k F J) k I=s*prod d (rv k F0 J) k I
theorem kX.abs{w k:Nat}{F F0:Nat->aS}(h:kX w k F F0)(d:Nat)(J:Nat->Nat)(I:List Bool):(prod d (rv k F J) k I).natAbs=(prod d (rv k F0 J) k I).natAbs:=by
 obtain⟨s,hs,e⟩:=h.JP;have:=e d J I;rcases hs with rfl|rfl<;>omega
theorem kX.refl(w k:Nat)(F:Nat->aS):kX w k F F:=⟨fun i hi=>Sp.row F hi,fun i hi=>Sp.row F hi,1,.inl rfl,fun _ _ _=>(Int.one_mul _).symm⟩
theorem kX.trans{w k:Nat}{F F1 F0:Nat->aS}(h:kX w k F F1)(h0:kX w k F1 F0):kX w k F F0:=by
 obtain⟨s,hs,e⟩:=h.JP;obtain⟨s0,WB,e0⟩:=h0.JP;refine⟨fun i hi=>Sp.le h0.le (h.le i hi),fun i hi=>Sp.le h.ge (h0.ge i hi),s*s0,?_,fun d J I=>by rw[e,e0,Int.mul_assoc]⟩;rcases hs with rfl|rfl<;>rcases WB with rfl|rfl<;>simp
theorem Mh{k:Nat}{F:Nat->aS}{J:Nat->Nat}{r:Nat}(hr:r<k)(v:aS):∀y,y<k->∀i,rv k (put F r v) J y i=put (rv k F J) (k-1-r) (fun i=>v (J i)) y i:=by
 intro y hy i;unfold rv put;by_cases e:k-1-y=r
 ·rw[if_pos e,if_pos om]
 ·rw[if_neg e,if_neg om]
theorem kX.sub{w k:Nat}{F:Nat->aS}{r y:Nat}(hr:r<k)(hy:y<k)(ff:r≠y)(t:Int):kX w k (put F r (fun j=>F r j-t*F y j)) F:=by
 have hp:∀i,i≠r->put F r (fun j=>F r j-t*F y j) i=F i:=fun i hi=>by unfold put;rw[if_neg hi]
 have hq:put F r (fun j=>F r j-t*F y j) r=fun j=>F r j-t*F y j:=by unfold put;rw[if_pos rfl]
 refine⟨fun i hi=>?_,fun i hi=>?_,1,.inl rfl,fun d J I=>?_⟩
 ·by_cases e:i=r
  ·subst e;rw[hq]
   exact((Sp.row F hr).comb 1 (-t) (Sp.row F hy)).congr (fun j _=>by rw[Int.neg_mul];omega)
  ·rw[hp i e];exact Sp.row F hi
 ·by_cases e:i=r
  ·subst e
   have h1:=Sp.row (w:=w) (put F i (fun j=>F i j-t*F y j)) hr;have h2:=Sp.row (w:=w) (put F i (fun j=>F i j-t*F y j)) hy;rw[hq]at h1;rw[hp y om]at h2;exact(h1.comb 1 t h2).congr (fun j _=>om)
  ·have:=Sp.row (w:=w) (put F r (fun j=>F r j-t*F y j)) hi
   rw[hp i e]at this;exact this
 ·rw[fY k (fun y hy i _=>Mh hr _ y hy i)]
  have:=Mf (m:=d) (n:=k) (W:=rv k F J) (r:=k-1-r) (y:=k-1-y) om om om t I;have e1:(fun i=>rv k F J (k-1-r) i-t*rv k F J (k-1-y) i)=fun i=>F r (J i)-t*F y (J i):=by
   funext i;unfold rv;rw[show k-1-(k-1-r)=r by omega,show k-1-(k-1-y)=y by omega]
  rw[e1]at this;rw[this,Int.one_mul]
def Pd(F:Nat->aS)(a b:Nat):Nat->aS:=put (put F a (F b)) b (F a)
theorem kX.swap{w k:Nat}{F:Nat->aS}{a b:Nat}(ha:a<k)(hb:b<k):kX w k (Pd F a b) F:=by
 by_cases ff:a=b
 ·subst ff;unfold Pd;rw[jw,jw];exact .refl _ _ _
 have hv:∀i,Pd F a b i=if i=b then F a else if i=a then F b else F i:=fun i=>rfl
 refine⟨fun i hi=>?_,fun i hi=>?_,-1,.inr rfl,fun d J I=>?_⟩
 ·rw[hv];split
  ·exact Sp.row F ha
  ·split
   ·exact Sp.row F hb
   ·exact Sp.row F hi
 ·by_cases e:i=a
  ·have:=Sp.row (w:=w) (Pd F a b) hb
   rw[hv,if_pos rfl]at this;rw[e];exact this
  ·by_cases e2:i=b
   ·have:=Sp.row (w:=w) (Pd F a b) ha
    rw[hv,if_neg ff,if_pos rfl]at this;rw[e2];exact this
   ·have:=Sp.row (w:=w) (Pd F a b) hi
    rw[hv,if_neg e2,if_neg e]at this;exact this
 ·have e:∀y,y<k->∀i,i<d->rv k (Pd F a b) J y i=put (put (rv k F J) (k-1-a) (rv k F J (k-1-b))) (k-1-b) (rv k F J (k-1-a)) y i:=by
   intro y hy i _;show Pd F a b (k-1-y) (J i)=(if y=k-1-b then rv k F J (k-1-a)else if y=k-1-a then rv k F J (k-1-b)else rv k F J y) i;rw[hv];by_cases e1:k-1-y=b
   ·rw[if_pos e1,if_pos (show y=k-1-b by omega)]
    unfold rv;rw[show k-1-(k-1-a)=a by omega]
   ·rw[if_neg e1,if_neg (show ¬y=k-1-b by omega)]
    by_cases e2:k-1-y=a
    ·rw[if_pos e2,if_pos (show y=k-1-a by omega)]
     unfold rv;rw[show k-1-(k-1-b)=b by omega]
    ·rw[if_neg e2,if_neg (show ¬y=k-1-a by omega)];rfl
  rw[fY k e,JO om om om];omega
theorem kX.neg{w k:Nat}{F:Nat->aS}{r:Nat}(hr:r<k):kX w k (put F r (fun j=>-(F r j))) F:=by
 have hp:∀i,i≠r->put F r (fun j=>-(F r j)) i=F i:=fun i hi=>by unfold put;rw[if_neg hi]
 have hq:put F r (fun j=>-(F r j)) r=fun j=>-(F r j):=by unfold put;rw[if_pos rfl]
 refine⟨fun i hi=>?_,fun i hi=>?_,-1,.inr rfl,fun d J I=>?_⟩
 ·by_cases e:i=r
  ·subst e;rw[hq]
   exact((Sp.row F hr).comb (-1) 0 (Sp.row F hr)).congr (fun j _=>om)
  ·rw[hp i e];exact Sp.row F hi
 ·by_cases e:i=r
  ·subst e
   have h1:=Sp.row (w:=w) (put F i (fun j=>-(F i j))) hr;rw[hq]at h1;exact(h1.comb (-1) 0 h1).congr (fun j _=>om)
  ·have:=Sp.row (w:=w) (put F r (fun j=>-(F r j))) hi
   rw[hp i e]at this;exact this
 ·rw[fY k (fun y hy i _=>Mh hr _ y hy i)]
  have:=Mg (m:=d) (n:=k) (W:=rv k F J) (i:=k-1-r) om I;have e1:(fun i=>-(rv k F J (k-1-r) i))=fun i=>-(F r (J i)):=by
   funext i;unfold rv;rw[show k-1-(k-1-r)=r by omega]
  rw[e1]at this;rw[this];omega
theorem kX.of_eq{w k:Nat}{F G:Nat->aS}(e:∀i,i<k->F i=G i):kX w k F G:=by
 refine⟨fun i hi=>by rw[e i hi];exact Sp.row G hi,fun i hi=>by rw[<-e i hi];exact Sp.row F hi,1,.inl rfl,fun d J I=>?_⟩;rw[fY k (V:=rv k G J) (fun y hy i _=>by unfold rv;rw[e _ om]),Int.one_mul]
def Mi(v:aS)(W:Nat->aS):Nat->aS:=fun y=>match y with|0=>v|y+1=>W y
theorem D3:∀k:Nat,∃t:Int,∀(d:Nat) (v:aS) (W:Nat->aS),prod d (Mi v W) (k+1)=fun I=>t*aZ d v (prod d W k) I
 |0=>⟨1,fun d v W=>by funext I;show aZ d v unit I=1*aZ d v unit I;omega⟩
 |k+1=>by
  obtain⟨t,h⟩:=D3 k;refine⟨-t,fun d v W=>?_⟩
  funext I
  show aZ d (W k) (prod d (Mi v W) (k+1)) I=-t*aZ d v (aZ d (W k) (prod d W k)) I;rw[h d v W];have:=je d (W k) t 0 (aZ d v (prod d W k)) (fun _=>0) I;have e:(fun J=>t*aZ d v (prod d W k) J+0*(fun _=>(0:Int)) J)=fun J=>t*aZ d v (prod d W k) J:=by funext J;omega
  rw[e]at this;rw[this,yE,Int.neg_mul,Int.mul_neg];omega
theorem Sp.more{w k:Nat}{F:Nat->aS}{v u:aS}(h:Sp w k F v):Sp w (k+1) (put F k u) v:=by
 obtain⟨y,hy⟩:=h;refine⟨fun i=>if i=k then 0 else y i,fun j hj=>?_⟩;show v j=aV (fun i=>(if i=k then 0 else y i)*put F k u i j) k+(if k=k then 0 else y k)*put F k u k j;have e:aV (fun i=>(if i=k then 0 else y i)*put F k u i j) k=aV (fun i=>y i*F i j) k:=aN k (fun i hi=>by
  show(if i=k then 0 else y i)*(if i=k then u else F i) j=y i*F i j;rw[if_neg om,if_neg om])
 rw[if_pos rfl,hy j hj,e];omega
theorem kX.more{w k:Nat}{F F0:Nat->aS}(h:kX w k F F0)(v:aS):kX w (k+1) (put F k v) (put F0 k v):=by
 have hp:∀(F:Nat->aS) i,i≠k->put F k v i=F i:=fun F i hi=>by unfold put;rw[if_neg hi]
 have hq:∀(F:Nat->aS),put F k v k=v:=fun F=>by unfold put;rw[if_pos rfl]
 have hr:∀(F:Nat->aS) J y,y<k+1->∀i,rv (k+1) (put F k v) J y i=Mi (fun i=>v (J i)) (rv k F J) y i:=fun F J y hy i=>by
  cases y with
  |zero=>unfold rv;rw[show k+1-1-0=k by omega,hq];rfl
  |succ y=>unfold rv;rw[hp F _ om,show k+1-1-(y+1)=k-1-y by omega];rfl
 obtain⟨s,hs,e⟩:=h.JP;obtain⟨t,ht⟩:=D3 k;refine⟨fun i hi=>?_,fun i hi=>?_,s,hs,fun d J I=>?_⟩
 ·by_cases c:i=k
  ·subst c
   have:=Sp.row (w:=w) (put F0 i v) (show i<i+1 by omega);rw[hq]at this;rw[hq];exact this
  ·rw[hp F i c];exact(h.le i om).more
 ·by_cases c:i=k
  ·subst c
   have:=Sp.row (w:=w) (put F i v) (show i<i+1 by omega);rw[hq]at this;rw[hq];exact this
  ·rw[hp F0 i c];exact(h.ge i om).more
 ·rw[fY (k+1) (fun y hy i _=>hr F J y hy i),fY (k+1) (fun y hy i _=>hr F0 J y hy i),ht,ht]
  have e1:prod d (rv k F J) k=fun I=>s*prod d (rv k F0 J) k I:=by funext I;exact e d J I
  rw[e1];have:=je d (fun i=>v (J i)) s 0 (prod d (rv k F0 J) k) (fun _=>0) I;have e2:(fun K=>s*prod d (rv k F0 J) k K+0*(fun _=>(0:Int)) K)=fun K=>s*prod d (rv k F0 J) k K:=by funext K;omega
  rw[e2]at this;show t*aZ d (fun i=>v (J i)) (fun I=>s*prod d (rv k F0 J) k I) I=s*(t*aZ d (fun i=>v (J i)) (prod d (rv k F0 J) k) I);rw[this,Int.zero_mul,Int.add_zero,<-Int.mul_assoc,<-Int.mul_assoc,Int.mul_comm t s]
def gD(f:Nat->Int):Nat->Int
 |0=>1
 |k+1=>gD f k*f k
theorem Ie{m:Nat}{W:Nat->aS}:∀k,k<=m->(∀y,y<k->∀i,y<i->i<m->W y i=0)->prod k W k (top k)=gD (fun y=>W y y) k
 |0,_,_=>rfl
 |k+1,hk,h=>by
  obtain⟨h1,h2⟩:=yG (m:=k) (W:=W) k (fun j hj=>h j om k hj om);have e2:(fun J=>prod (k+1) W k (true :: J))=fun _=>0:=funext h2
  show W k k*prod (k+1) W k (false :: top k)-aZ k (W k) (fun J=>prod (k+1) W k (true :: J)) (top k)=gD (fun y=>W y y) k*W k k;rw[e2,iU,h1,Ie k om (fun y hy i h3 h4=>h y om i h3 h4)];rw[Int.mul_comm];omega
theorem yL{m:Nat}{W:Nat->aS}:∀(k:Nat) (I:List Bool),prod (m+1) W k (false :: I)=prod m W k I
 |0,I=>rfl
 |k+1,I=>by
  have e:(fun J=>prod (m+1) W k (false :: J))=prod m W k:=funext (yL k);show aZ m (W k) (fun J=>prod (m+1) W k (false :: J)) I=aZ m (W k) (prod m W k) I;rw[e]
theorem qt{f g:Nat->Int}:∀k,(∀i,i<k->f i=g i)->gD f k=gD g k
 |0,_=>rfl
 |k+1,h=>by show gD f k*f k=gD g k*g k;rw[qt k (fun i hi=>h i om),h k om]
theorem u7{f:Nat->Int}:∀k,(∀i,i<k->0<f i)->0<gD f k
 |0,_=>by show(0:Int)<1;omega
 |k+1,h=>Int.mul_pos (u7 k (fun i hi=>h i om)) (h k om)
theorem D4{f:Nat->Int}:∀k,(∀i,i<k->0<f i)->∀i,i<k->f i<=gD f k
 |0,_,i,hi=>om
 |k+1,h,i,hi=>by
  have p1:=u7 k (fun i hi=>h i om);have p2:=h k om;show f i<=gD f k*f k;by_cases e:i=k
  ·subst e
   have:=Int.mul_le_mul_of_nonneg_right (show(1:Int)<=gD f i by omega) (Int.le_of_lt p2);omega
  ·have h1:=D4 k (fun i hi=>h i om) i om
   have:=Int.mul_le_mul_of_nonneg_left (show(1:Int)<=f k by omega) (Int.le_of_lt p1);omega
theorem JQ(f:Nat->Int):∀k,gD (fun i=>f (k-1-i)) k=gD f k:=by
 have shift:∀k (g:Nat->Int),gD g (k+1)=g 0*gD (fun i=>g (i+1)) k:=fun k=>by
  induction k with
  |zero=>intro g;show 1*g 0=g 0*1;omega
  |succ k ih=>intro g;show gD g (k+1)*g (k+1)=g 0*(gD (fun i=>g (i+1)) k*g (k+1));rw[ih,Int.mul_assoc]
 intro k
 induction k with
 |zero=>rfl
 |succ k ih=>
  rw[shift];show f (k+1-1-0)*gD (fun i=>f (k+1-1-(i+1))) k=gD f k*f k;rw[qt k (g:=fun i=>f (k-1-i)) (fun i hi=>by rw[show k+1-1-(i+1)=k-1-i by omega]),ih,Int.mul_comm];rfl
def mA(w k:Nat)(F:Nat->aS)(j:Nat):Nat->Nat:=fun i=>if i<k then aj w (F (k-1-i))else j
theorem Ig{w k:Nat}{F:Nat->aS}(h:pJ w k F)(j:Nat):prod k (rv k F (mA w k F j)) k (top k)=gD (fun i=>F i (aj w (F i))) k:=by
 rw[Ie (m:=k) k (Nat.le_refl _) (fun y hy i h1 h2=>?_),<-JQ (fun i=>F i (aj w (F i)))]
 ·refine qt k (fun i hi=>?_)
  show F (k-1-i) (mA w k F j i)=F (k-1-i) (aj w (F (k-1-i)));unfold mA;rw[if_pos hi]
 ·unfold rv mA
  rw[if_pos h2];exact bD (h.inc _ _ om om)
theorem RU{k M:Nat}{F0:Nat->aS}{w:Nat}(hM:∀i,i<k->∀j,(F0 i j).natAbs<=M)(J:Nat->Nat):∀y,y<k->∀i,(rv k F0 J y i).natAbs<=M:=fun y hy i=>hM _ om _
theorem kX.leads{w k M:Nat}{F F0:Nat->aS}(h:pJ w k F)(l:kX w k F F0)(hM:∀i,i<k->∀j,(F0 i j).natAbs<=M):gD (fun i=>F i (aj w (F i))) k<=(tG k k*M ^ k:Nat):=by
 have h1:=l.abs k (mA w k F 0) (top k);rw[Ig h]at h1;have h2:=yJ (m:=k) (W:=rv k F0 (mA w k F 0)) (M:=M) k (fun y hy i _=>RU (w:=w) hM _ y hy i) (top k);rw[B7,<-h1]at h2;omega
theorem Mj{v:aS}{f:Nat->Int}{D:Nat}:∀m,(∀i,i<m->(v i).natAbs<=D)->vn m v<=m*D
 |0,_=>by show 0<=_;omega
 |m+1,h=>by
  have:=Mj (v:=v) (f:=f) (D:=D) m (fun i hi=>h i om);have:=h m om;show vn m v+(v m).natAbs<=(m+1)*D;rw[Nat.add_mul];omega
theorem kX.bound{w k M:Nat}{F F0:Nat->aS}(h:pJ w k F)(l:kX w k F F0)(hM:∀i,i<k->∀j,(F0 i j).natAbs<=M){r:Nat}(hr:r<k)(hb:∀i,i<k->(F r (aj w (F i))).natAbs<=(F i (aj w (F i))).natAbs)(j:Nat):(F r j).natAbs<=k*(tG k k*M ^ k):=by
 have hD:0<gD (fun i=>F i (aj w (F i))) k:=u7 k h.pos;obtain⟨D,eD⟩:∃D:Nat,gD (fun i=>F i (aj w (F i))) k=D:=⟨(gD (fun i=>F i (aj w (F i))) k).toNat,om⟩;have h0:aZ (k+1) (rv k F (mA w k F j) (k-1-r)) (prod (k+1) (rv k F (mA w k F j)) k) (true :: top k)=0:=by
  have:=yF (m:=k+1) (W:=rv k F (mA w k F j)) (k:=k-1-r) r (true :: top k);rw[show k-1-r+1+r=k by omega]at this;exact this
 have h1:rv k F (mA w k F j) (k-1-r) k*prod (k+1) (rv k F (mA w k F j)) k (false :: top k)-aZ k (rv k F (mA w k F j) (k-1-r)) (fun J=>prod (k+1) (rv k F (mA w k F j)) k (true :: J)) (top k)=0:=h0;rw[yL,Ig h,eD]at h1;have e1:rv k F (mA w k F j) (k-1-r) k=F r j:=by unfold rv mA;rw[if_neg om,show k-1-(k-1-r)=r by omega]
 rw[e1]at h1;have h2:=yI k (rv k F (mA w k F j) (k-1-r)) (fun J=>prod (k+1) (rv k F (mA w k F j)) k (true :: J)) (top k) (tG k k*M ^ k) (fun J hJ=>by
  rw[l.abs];have:=yJ (m:=k+1) (W:=rv k F0 (mA w k F j)) (M:=M) k (fun y hy i _=>RU (w:=w) hM _ y hy i) (true :: J);rw[show s7 (true :: J)=k by rw[<-B7 k,<-hJ];rfl]at this;exact this)
 have h3:vn k (rv k F (mA w k F j) (k-1-r))<=k*D:=Mj (f:=fun _=>0) k (fun i hi=>by
  unfold rv mA;rw[if_pos hi,show k-1-(k-1-r)=r by omega];have q1:=hb (k-1-i) om;have q2:=D4 k h.pos (k-1-i) om;have q3:=h.pos (k-1-i) om;rw[eD]at q2;omega)
 generalize aZ k (rv k F (mA w k F j) (k-1-r)) (fun J=>prod (k+1) (rv k F (mA w k F j)) k (true :: J)) (top k)=W at h1 h2;have h4:(F r j).natAbs*D=W.natAbs:=by rw[show W=F r j*D by omega,Int.natAbs_mul];rfl
 have h5:(F r j).natAbs*D<=k*(tG k k*M ^ k)*D:=by
  rw[h4];refine Nat.le_trans h2 (Nat.le_trans (Nat.mul_le_mul_right _ h3) ?_);rw[Nat.mul_assoc,Nat.mul_comm D,<-Nat.mul_assoc];exact Nat.le_refl _
 exact Nat.le_of_mul_le_mul_right h5 om
theorem kX.ne{w k d:Nat}{F F0:Nat->aS}(l:kX w k F F0){J:Nat->Nat}{I:List Bool}(hJ:∀i,i<d->J i<w)(h:prod d (rv k F0 J) k I≠0){r:Nat}(hr:r<k):aj w (F r)<w:=by
 rcases Nat.lt_or_ge (aj w (F r)) w with c|c
 ·exact c
 ·exfalso
  have h1:=l.abs d J I;rw[JN (W:=rv k F J) (i:=k-1-r) om (fun i hi=>by
   unfold rv;rw[show k-1-(k-1-r)=r by omega];exact bD (w:=w) (by have:=hJ i hi;omega))]at h1
  omega
end Go.Proofs.Ytdpbiegfljmhmaa.Ext
namespace Go.cY
open Go.RowKit
def kE:af:={ next:=0,low:=0,m:=.leaf }
def qw:Option (Value×af)->Bool
 |some (.bool true,_)=>true
 |_=>false
theorem Au{r:Option (Value×af)}(h:qw r=true):∃h',r=some (.bool true,h'):=by
 unfold qw at h;split at h
 ·exact⟨_,rfl⟩
 ·cases h
theorem tx.calls{P : Program}{g : FuncId}{fn : Func}{args : Array Value}{w : World}{R : Value → World → Prop}(h : tx P g args w R)(hf : P.funcs[g]? = some fn)(hb : fn.body.isSome = true)(cK : (fn.name == "runtime.NumGoroutine") = false) :
  Calls P g args w (fun e w'=>∃c,e=.returned c/\R c w'):=by
 rcases h with ⟨_,h⟩|⟨c,w',h,_⟩
 ·exact h
 ·rw[ia hf hb cK]at h;simp at h
theorem GD{P : Program}{call : cJ}(hc : dF P call){g : FuncId}{fn : Func}(hf : P.funcs[g]? = some fn)(hb : fn.body.isSome = true)(cK : (fn.name == "runtime.NumGoroutine") = false)(h : qw (call g [] kE) = true)(w : World)(hg : g < aX := by decide) :
  Calls P g #[] w fun e w'=>e=.returned (.bool true)/\Below w.heap.size w w':=by
 obtain⟨h',he⟩:=Au h;have hR:HR ⟨fun _=>none,fun _=>none⟩ (iB kE) w:=
  { cV:=(fun id L h=>by cases h),dx:=(fun id L h=>by cases h),cN:=(fun id L b h=>by cases h),dy:=(fun id pQ L L' b b' h=>by cases h),fv:=(fun t L h=>by cases h),fj:=(fun t L h=>by cases h),fw:=(fun t t' L L' h=>by cases h),sep:=(fun id t L L' h=>by cases h) }
 have hd:=hc g [] kE _ h' he hg (fun _=>none) w [] hR (fQ.nil _);refine(hd.calls hf hb cK).mono ?_;rintro e w' ⟨c,rfl,G',hv,hG,_⟩;rw[hv.bool];refine⟨rfl,hG.os,hG.tape,hG.output,hG.size,fun k hk=>hG.frame k hk (fun id L h=>by cases h) (fun t L h=>by cases h)⟩
end Go.cY
namespace Go.cY
theorem fQ.Ih{g:Nat->Option Loc}:∀{l l':List Value},fQ g l l'->l.all bA=true->l'=l
 | [],l',h,_=>h.iX
 |u :: l,l',h,hf=>by
  obtain⟨v,l2,rfl,hv,hl⟩:=h.head;simp only[List.all_cons,Bool.and_eq_true]at hf;have e1:=fQ.Ih hl hf.2;have e2:v=u:=by
   have hu:=hf.1;cases hv with
   |flat _ _=>rfl
   |Al=>simp[bA]at hu
   |ptr=>simp[bA]at hu
   |gR=>simp[bA]at hu
   |gZ=>simp[bA]at hu
   |kC=>simp[bA]at hu
   |jQ=>simp[bA]at hu
   |xT=>simp[bA]at hu
   |yield=>simp[bA]at hu
   |func=>simp[bA]at hu
   |agg=>simp[bA]at hu
   |tuple=>simp[bA]at hu
  rw[e1,e2]
def D5:Value->Bool
 | .tuple vs=>vs.toList.all bA
 |v=>bA v
theorem VG.Ml{g:Nat->Option Loc}{v:Value}(h:D5 v=true):VG g v v:=by
 unfold D5 at h;split at h
 ·exact .tuple _ _ rfl (fQ.flat h).2
 ·exact .flat _ h
def withFn(g0:FuncId)(f:List Value->Option Value)(F:bk):bk:=fun g args h=>
 bif Nat.beq g g0 && args.all bA then
  match f args with
  |some v=>bif D5 v then some (v,h)else none
  |none=>none
 else F g args h
theorem vN{g0:FuncId}{f:List Value->Option Value}{F:bk}{g:FuncId}{args:List Value}{h h':af}{v:Value}(hc:withFn g0 f F g args h=some (v,h')) :
  (g=g0/\args.all bA=true/\f args=some v/\D5 v=true/\h'=h)\/F g args h=some (v,h'):=by
 unfold withFn at hc;cases hb:(Nat.beq g g0 && args.all bA)with
 |false=>rw[hb]at hc;exact .inr hc
 |true=>
  rw[hb]at hc;simp only[Bool.and_eq_true]at hb;simp only[cond_true]at hc;split at hc
  ·rename_i u hu
   cases hf:D5 u with
   |false=>rw[hf]at hc;simp at hc
   |true=>
    rw[hf]at hc;simp only[cond_true,oi,pj]at hc;obtain⟨rfl,rfl⟩:=hc;exact .inl ⟨Nat.eq_of_beq_eq_true hb.1,hb.2,hu,hf,rfl⟩
  ·cases hc
theorem A8{P:Program}{g0:FuncId}{f:List Value->Option Value}{F:bk}(hf:∀(args:List Value) (v:Value) (w:World),f args=some v->(callFunc g0 args.toArray).run P w=.ok (.value v) w)(hF:dF P F):dF P (withFn g0 f F):=by
 intro g args h v h' hc hg G w aT hR hA;rcases vN hc with ⟨rfl,h1,h2,h3,rfl⟩|hc
 ·right
  rw[hA.Ih h1];exact⟨v,w,hf args v w h2,G,.Ml h3,.refl hR,.refl _ _⟩
 ·exact hF g args h v h' hc hg G w aT hR hA
theorem vO{g0:FuncId}{f:List Value->Option Value}{F:bk}(hF:aY F):aY (withFn g0 f F):=by
 intro g args h v h' hc;rcases vN hc with ⟨_,_,_,_,rfl⟩|hc
 ·exact .refl _ _
 ·exact hF g args h v h' hc
def yM:List Value->Option Value
 | [.int .u64 x,.int .u64 y,.int .u64 c]=>if 0<=x/\0<=y/\0<=c/\c<=1 then some (.tuple #[.int .u64 ((x+y+c) % 18446744073709551616),.int .u64 ((x+y+c) / 18446744073709551616)])else none
 |_=>none
def Mm:Array Value->Sem Value:=fun args=>do
 let (x, y, b) ← Extern.MathBitsCarry.three "Sub64" args
 pure (Extern.MathBitsCarry.pair ((x+Extern.MathBitsCarry.m64-y-b) % Extern.MathBitsCarry.m64) (if x<y+b then 1 else 0))
def u9:List Value->Option Value
 | [.int .u64 x,.int .u64 y,.int .u64 b]=>if 0<=x/\0<=y/\0<=b/\b<=1 then some (.tuple #[.int .u64 (Int.ofNat ((x.toNat+18446744073709551616-y.toNat-b.toNat) % 18446744073709551616)),.int .u64 (Int.ofNat (if x.toNat<y.toNat+b.toNat then 1 else 0))])else none
 |_=>none
theorem tI{P : Program}{g : FuncId}{fn : Func}(hf : P.funcs[g]? = some fn)(cK : (fn.name == "runtime.NumGoroutine") = false)(hb : fn.body.isNone = true)(hn : Extern.findNext fn = none)(he : Extern.find fn = some add64Entry)
  (args:List Value) (v:Value) (w:World) (h:yM args=some v):(callFunc g args.toArray).run P w=.ok (.value v) w:=by
 unfold yM at h;split at h
 ·rename_i x y c
  split at h
  ·rename_i hc
   simp only[oi]at h;subst h;have:=run_callFunc_extern hf cK hb hn he #[.int .u64 x,.int .u64 y,.int .u64 c] w;rw[run_add64 x y c hc.1 hc.2.1 hc.2.2.1 hc.2.2.2]at this;exact this
  ·cases h
 ·cases h
theorem nI{P : Program}{g : FuncId}{fn : Func}(hf : P.funcs[g]? = some fn)(cK : (fn.name == "runtime.NumGoroutine") = false)(hb : fn.body.isNone = true)(hn : Extern.findNext fn = none)(he : Extern.find fn = some Mm)
  (args:List Value) (v:Value) (w:World) (h:u9 args=some v):(callFunc g args.toArray).run P w=.ok (.value v) w:=by
 unfold u9 at h;split at h
 ·rename_i x y b
  split at h
  ·rename_i hc
   simp only[oi]at h;subst h;have:=run_callFunc_extern hf cK hb hn he #[.int .u64 x,.int .u64 y,.int .u64 b] w;have key:(Mm #[.int .u64 x,.int .u64 y,.int .u64 b]).run P w=.ok (.tuple #[.int .u64 (Int.ofNat ((x.toNat+18446744073709551616-y.toNat-b.toNat) % 18446744073709551616)),.int .u64 (Int.ofNat (if x.toNat<y.toNat+b.toNat then 1 else 0))]) w:=by
    have uX:b=0\/b=1:=om
    rcases uX with rfl|rfl<;>rfl
   rw[key]at this;exact this
  ·cases h
 ·cases h
end Go.cY
namespace Go.cY
open Go.RowKit
def nJ(g0:FuncId)(F:bk):bk:=fun g args h=>
 bif Nat.beq g g0 && args.isEmpty then some (.bool true,h)else F g args h
theorem sj{g0:FuncId}{F:bk}{g:FuncId}{args:List Value}{h h':af}{v:Value}(hc:nJ g0 F g args h=some (v,h')) :
  (g=g0/\args=[]/\v=.bool true/\h'=h)\/F g args h=some (v,h'):=by
 unfold nJ at hc;cases hb:(Nat.beq g g0 && args.isEmpty)with
 |false=>rw[hb]at hc;exact .inr hc
 |true=>
  rw[hb]at hc;simp only[Bool.and_eq_true,List.isEmpty_iff]at hb;simp only[cond_true,oi,pj]at hc;exact .inl ⟨Nat.eq_of_beq_eq_true hb.1,hb.2,hc.1.symm,hc.2.symm⟩
theorem Good.grown {G : Nat → Option Loc} {h : af} {w w' : World} (hR : HR ⟨G, fun _ => none⟩ (iB h) w) (b : Below w.heap.size w w') : Good ⟨G, fun _ => none⟩ (iB h) w ⟨G, fun _ => none⟩ (iB h) w' := by
  have fg : ∀ id L, G id = some L → L.b < w.heap.size := fun id L hL => by
    obtain ⟨o, h1, _⟩ := hR.dx id L hL
    exact (Array.getElem?_eq_some_iff.1 h1).1
  exact
    { hr :=
        { cV := hR.cV
          dx := fun id L hL => by
            rw [b.block _ (fg id L hL)]; exact hR.dx id L hL
          cN := fun id L b1 hL hm => by
            rw [b.block _ (fg id L hL)]; exact hR.cN id L b1 hL hm
          dy := hR.dy
          fv := (fun t L h => by cases h), fj := (fun t L h => by cases h), fw := (fun t t' L L' h => by cases h), sep := (fun id t L L' _ h => by cases h) }
      mono := fun _ _ h => h
      next := Nat.le_refl _
      low := Nat.le_refl _
      size := b.size
      os := b.os
      tape := b.tape
      output := b.output
      fresh := fun id L h1 h2 => by rw [h2] at h1; cases h1
      cO := fun t L h1 => .inr ⟨t, L, h1, rfl⟩
      frame := fun k hk _ _ => b.block k hk }
theorem D6{P : Program}{g0 : FuncId}{F : bk}{call : cJ}(hc : dF P call){fn : Func}(hf : P.funcs[g0]? = some fn)(hb : fn.body.isSome = true)(cK : (fn.name == "runtime.NumGoroutine") = false)(hr : qw (call g0 [] kE) = true)(hF : dF P F) : dF P (nJ g0 F) := by
 intro g args h v h' FH hg G w aT hR hA;rcases sj FH with ⟨rfl,rfl,rfl,rfl⟩|FH
 ·left
  rw[hA.iX];refine⟨ia hf hb cK,(GD hc hf hb cK hr w hg).mono ?_⟩;rintro e w' ⟨rfl,JR⟩;exact⟨_,rfl,G,.flat _ rfl,.grown hR JR,.refl _ _⟩
 ·exact hF g args h v h' FH hg G w aT hR hA
theorem Av{g0:FuncId}{F:bk}(hF:aY F):aY (nJ g0 F):=by
 intro g args h v h' hc;rcases sj hc with ⟨_,_,_,rfl⟩|hc
 ·exact .refl _ _
 ·exact hF g args h v h' hc
end Go.cY
namespace Go.cY
def oD(c c':cJ):Prop:=∀g args h r,c g args h=some r->c' g args h=some r
structure D7(r r':Rec):Prop where
 run:∀f nt c s x,r.run f nt c s=some x->r'.run f nt c s=some x
 loop:∀f nt c kn s x,r.loop f nt c kn s=some x->r'.loop f nt c kn s=some x
 call:oD r.call r'.call
variable{P:Program}{H:Hint}{F:bk}
theorem vP{c c':cJ}(h:oD c c'){k:Call}{s:St}{x:Value×St}(hx:jP c k s=some x):jP c' k s=some x:=by
 unfold jP at hx ⊢;split at hx
 ·rename_i g args hg
  split at hx
  ·rename_i v h1 hr
   rw[h _ _ _ _ hr];exact hx
  ·cases hx
 ·cases hx
theorem JS{c c':cJ}(h:oD c c'){f:FuncId}{o:Oper}{s:St}{x:Value×St}(hx:sG P H c f o s=some x):sG P H c' f o s=some x:=by
 unfold sG at hx ⊢;split at hx
 ·exact vP h hx
 ·exact hx
theorem JT{c c':cJ}(h:oD c c'){f:FuncId}{id tag:Nat}{o:Oper}{s:St}{x:Value×St}(hx:jN P H c f id tag o s=some x):jN P H c' f id tag o s=some x:=by
 unfold jN at hx ⊢;split at hx
 ·exact vP h hx
 ·exact hx
theorem rC{c c':cJ}(h:oD c c'){f:FuncId}{nt:Nat}{ops:Array Oper}:∀(l:List Oper) (s s':St),lO P H c f nt ops l s=some s'->lO P H c' f nt ops l s=some s'
 | [],s,s',hx=>hx
 |o :: l,s,s',hx=>by
  simp only[lO]at hx ⊢;split at hx
  ·split at hx
   ·rename_i v s1 h1
    rw[JS h h1];simp only[];split at hx
    ·exact rC h l _ s' hx
    ·cases hx
   ·cases hx
  ·split at hx
   ·exact rC h l _ s' hx
   ·cases hx
  ·cases hx
theorem rD{c c':cJ}(h:oD c c'){f:FuncId}{nt:Nat}{ops:Array Oper}{base aQ:Nat}:∀(l:List Nat) (i:Nat) (s:St) (r:St×List (Nat×FP×Bool)),rT P H c f nt ops base aQ l i s=some r->rT P H c' f nt ops base aQ l i s=some r
 | [],i,s,r,hx=>hx
 |p :: l,i,s,r,hx=>by
  simp only[rT]at hx ⊢;split at hx
  ·cases hx
  ·split at hx
   ·split at hx
    ·rename_i v s1 h1
     rw[JT h h1];simp only[];split at hx
     ·split at hx
      ·rename_i r' iA h2
       rw[rD h l _ _ _ h2];exact hx
      ·cases hx
     ·cases hx
    ·cases hx
   ·split at hx
    ·split at hx
     ·rename_i r' iA h2
      rw[rD h l _ _ _ h2];exact hx
     ·cases hx
    ·cases hx
   ·cases hx
theorem GF{c c':cJ}(h:oD c c'){f:FuncId}{nt:Nat}{ops:Array Oper}{s s':St}(hx:r8 P H c f nt ops s=some s'):r8 P H c' f nt ops s=some s':=by
 unfold r8 at hx ⊢;cases hd:oe ops (gp ops)with
 |false=>rw[hd]at hx;cases hx
 |true=>
  rw[hd]at hx;simp only[cond_true]at hx ⊢;split at hx
  ·rename_i r iA h1
   rw[rD h _ _ _ _ h1];exact hx
  ·cases hx
theorem D8{c c':cJ}(h:oD c c'){f:FuncId}{nt:Nat}{x:Operand}{ps:Array Tmp}{assign body:Code}{s:St}{r:Exit×St}(hx:pO P c f nt x ps assign body s=some r):pO P c' f nt x ps assign body s=some r:=by
 unfold pO at hx ⊢;cases hn:(bE assign && bE body)with
 |false=>rw[hn]at hx;cases hx
 |true=>
  rw[hn]at hx;simp only[cond_true]at hx ⊢;split at hx
  ·rename_i g first captured he
   cases hb:(Nat.blt g aX && wJ P g)with
   |false=>rw[hb]at hx;cases hx
   |true=>
    rw[hb]at hx;simp only[cond_true]at hx ⊢;split at hx
    ·rename_i v h2 hr
     simp only[h _ _ _ _ hr];exact hx
    ·cases hx
  ·cases hx
theorem D9{run run':FuncId->Nat->Code->St->Option (Exit×St)}(h:∀f nt c s x,run f nt c s=some x->run' f nt c s=some x){y:Nat}{args:List Value}{hp:af}{r:Value×af}(hx:pP run y args hp=some r):pP run' y args hp=some r:=by
 unfold pP at hx ⊢;split at hx
 ·rename_i od f nt env ps assign body hm
  cases hb:(Nat.beq args.length ps.length && ps.all (fun t=>Nat.blt t nt) && bE assign && bE body)with
  |false=>rw[hb]at hx;cases hx
  |true=>
   rw[hb]at hx;simp only[cond_true]at hx ⊢;split at hx
   ·rename_i s1 h1
    simp only[h _ _ _ _ _ h1];split at hx
    ·rename_i tm f1 O9 Ak Pa kV tn hm1
     split at hx
     ·rename_i s2 h2;simp only[h _ _ _ _ _ h2];exact hx
     ·rename_i s2 h2;simp only[h _ _ _ _ _ h2];exact hx
     ·rename_i id s2 h2;simp only[h _ _ _ _ _ h2];exact hx
     ·cases hx
    ·cases hx
   ·cases hx
 ·cases hx
theorem JU{r r':Rec}(h:D7 r r')(f:FuncId)(nt:Nat)(c:Code)(s:St)(x:Exit×St)(hx:og P H r f nt c s=some x):og P H r' f nt c s=some x:=by
 unfold og at hx ⊢;split at hx
 ·exact hx
 ·exact hx
 ·exact hx
 ·rename_i a b
  skip
  split at hx
  ·rename_i s1 ha
   rw[h.run _ _ _ _ _ ha];exact h.run _ _ _ _ _ hx
  ·rename_i hn
   rw[h.run _ _ _ _ _ hx];obtain⟨e,s1⟩:=x;cases e<;>first|rfl|exact absurd hx (hn _)
 ·skip
  split at hx
  ·exact h.run _ _ _ _ _ hx
  ·cases hx
 ·rename_i id b
  skip
  split at hx
  ·rename_i pQ s1 hb
   rw[h.run _ _ _ _ _ hb];exact hx
  ·rename_i hn
   rw[h.run _ _ _ _ _ hx];obtain⟨e,s1⟩:=x;cases e<;>first|rfl|exact absurd hx (hn _ _)
 ·exact h.loop _ _ _ _ _ _ hx
 ·rename_i id ops draw
  skip
  cases draw with
  |true=>
   simp only[cond_true]at hx ⊢;split at hx
   ·rename_i s1 h1
    rw[GF h.call h1];exact hx
   ·cases hx
  |false=>
   simp only[cond_false]at hx ⊢;split at hx
   ·rename_i s1 h1
    rw[rC h.call _ _ _ h1];exact hx
   ·cases hx
 ·exact D8 h.call hx
 ·cases hx
theorem GG{r r':Rec}(h:D7 r r')(f:FuncId)(nt:Nat)(c:Code)(kn:Nat)(s:St)(x:Exit×St)(hx:pR H r f nt c kn s=some x):pR H r' f nt c kn s=some x:=by
 unfold pR at hx ⊢;split at hx
 ·cases hx
 ·skip
  split at hx
  ·rename_i s2 hb
   rw[h.run _ _ _ _ _ hb];exact h.loop _ _ _ _ _ _ hx
  ·rename_i hn
   rw[h.run _ _ _ _ _ hx];obtain⟨e,s1⟩:=x;cases e<;>first|rfl|exact absurd hx (hn _)
theorem GH{r r':Rec}(h:D7 r r'):oD (o9 P F r) (o9 P F r'):=by
 intro g args hp x hx;unfold o9 at hx ⊢;cases hy:Nat.ble aX g with
 |true=>rw[hy]at hx;exact D9 h.run hx
 |false=>
 rw[hy]at hx;simp only[cond_false]at hx ⊢;split at hx
 ·exact hx
 ·skip
  split at hx
  ·split at hx
   ·skip
    split at hx
    ·rename_i s1 h1;rw[h.run _ _ _ _ _ h1];exact hx
    ·rename_i s1 h1;rw[h.run _ _ _ _ _ h1];exact hx
    ·cases hx
   ·cases hx
  ·cases hx
theorem oE:∀n,D7 (cH P H F n) (cH P H F (n+1))
 |0=>⟨fun f nt c s x h=>(by cases h),fun f nt c kn s x h=>(by cases h),fun g args h r hc=>(by cases hc)⟩
 |n+1=>⟨JU (oE n),GG (oE n),GH (oE n)⟩
theorem ko{n m:Nat}(h:n<=m):D7 (cH P H F n) (cH P H F m):=by
 induction h with
 |refl=>exact⟨fun _ _ _ _ _ h=>h,fun _ _ _ _ _ _ h=>h,fun _ _ _ _ h=>h⟩
 |step _ ih=>
  have:=oE (P:=P) (H:=H) (F:=F) ‹Nat›;exact⟨fun f nt c s x h=>this.run _ _ _ _ _ (ih.run _ _ _ _ _ h),fun f nt c kn s x h=>this.loop _ _ _ _ _ _ (ih.loop _ _ _ _ _ _ h),fun g args h r hc=>this.call _ _ _ _ (ih.call _ _ _ _ hc)⟩
def qx(P:Program)(H:Hint)(F:bk)(f:FuncId)(nt:Nat)(c:Code)(s:St)(x:Exit)(s':St):Prop:=∃n,(cH P H F n).run f nt c s=some (x,s')
def Loop(P:Program)(H:Hint)(F:bk)(f:FuncId)(nt:Nat)(c:Code)(kn:Nat)(s:St)(x:Exit)(s':St):Prop:=∃n,(cH P H F n).loop f nt c kn s=some (x,s')
def Pe(P:Program)(H:Hint)(F:bk)(g:FuncId)(args:List Value)(h:af)(v:Value)(h':af):Prop:=∃n,(cH P H F n).call g args h=some (v,h')
theorem qx.skip{f:FuncId}{nt:Nat}{s:St}:qx P H F f nt .skip s .normal s:=⟨1,rfl⟩
theorem qx.ret{f:FuncId}{nt:Nat}{s:St}:qx P H F f nt .ret s .ret s:=⟨1,rfl⟩
theorem qx.exit{f:FuncId}{nt:Nat}{s:St}{id:Nat}:qx P H F f nt (.exit id) s (.exit id) s:=⟨1,rfl⟩
theorem qx.seq{f:FuncId}{nt:Nat}{a b:Code}{s s1 s2:St}{x:Exit}(h1:qx P H F f nt a s .normal s1)(h2:qx P H F f nt b s1 x s2):qx P H F f nt (.seq a b) s x s2:=by
 obtain⟨n,h1⟩:=h1;obtain⟨m,h2⟩:=h2;refine⟨max n m+1,?_⟩;show og P H (cH P H F (max n m)) f nt (.seq a b) s=_;unfold og;simp only[(ko (Nat.le_max_left n m)).run _ _ _ _ _ h1];exact(ko (Nat.le_max_right n m)).run _ _ _ _ _ h2
theorem qx.Tt{f:FuncId}{nt:Nat}{a b:Code}{s s1:St}{x:Exit}(h1:qx P H F f nt a s x s1)(hx:x≠.normal):qx P H F f nt (.seq a b) s x s1:=by
 obtain⟨n,h1⟩:=h1;refine⟨n+1,?_⟩;show og P H (cH P H F n) f nt (.seq a b) s=_;unfold og;simp only[h1];cases x<;>first|rfl|exact absurd rfl hx
theorem qx.cond{f:FuncId}{nt:Nat}{y:Operand}{a b:Code}{s s1:St}{x:Exit}{t:Bool}(hc:bK s y=some (.bool t))(h:qx P H F f nt (bif t then a else b) s x s1):qx P H F f nt (.cond y a b) s x s1:=by
 obtain⟨n,h⟩:=h;refine⟨n+1,?_⟩;show og P H (cH P H F n) f nt (.cond y a b) s=_;unfold og;simp only[hc];exact h
theorem qx.block{f:FuncId}{nt id:Nat}{b:Code}{s s1:St}{x:Exit}(h:qx P H F f nt b s x s1):qx P H F f nt (.block id b) s (match x with | .exit pQ=>bif Nat.beq pQ id then .normal else .exit pQ|x=>x) s1:=by
 obtain⟨n,h⟩:=h;refine⟨n+1,?_⟩;show og P H (cH P H F n) f nt (.block id b) s=_;unfold og;simp only[h];cases x with
 |exit pQ=>simp only[];cases Nat.beq pQ id<;>rfl
 |_=>rfl
theorem qx.loop{f:FuncId}{nt:Nat}{b:Code}{s s1:St}{x:Exit}(h:Loop P H F f nt b s.kn s x s1):qx P H F f nt (.loop b) s x s1:=by
 obtain⟨n,h⟩:=h;exact⟨n+1,h⟩
theorem Pe.body{g:FuncId}{fn:Func}{c:Code}{args:List Value}{h h':af}{v:Value}{x:Exit}{s':St}(hF:F g args h=none)(hg:g<aX)(hf:P.funcs[g]?=some fn)(hb:fn.body=some c)
  (hr:qx P H F g fn.ntmps c { env:=fS args 0 .leaf,kn:=0,K:=.leaf,h:=h } x s') (hx:x=.normal\/x=.ret) (he:wm P fn s'=some (v,h')):Pe P H F g args h v h':=by
 obtain⟨n,hr⟩:=hr;refine⟨n+1,?_⟩;show o9 P F (cH P H F n) g args h=_;unfold o9;simp only[show Nat.ble aX g=false from dU hg,cond_false,hF,hf,hb,hr];rcases hx with rfl|rfl<;>exact he
theorem Pe.ok(hm : P.follows .mixedOrders = true)(hF : dF P F)(RT : aY F)(cK : ∀ (g : FuncId) (fn : Func), P.funcs[g]? = some fn → (fn.name == "runtime.NumGoroutine") = false){g : FuncId}{args : List Value}{h h' : af}{v : Value}(hr : Pe P H F g args h v h')(hg : g < aX){G : Nat → Option Loc}{w : World}{aT : List Value}
  (hR:HR ⟨G,fun _=>none⟩ (iB h) w) (hA:fQ G args aT) :
  tx P g aT.toArray w (fun c w'=>∃G',VG G' v c/\Good ⟨G,fun _=>none⟩ (iB h) w ⟨G',fun _=>none⟩ (iB h') w'/\fP (h.next<=·) G G'):=by
 obtain⟨n,hr⟩:=hr;exact(tF hm hF RT cK n).2.2.1 g args h v h' hr hg G w aT hR hA
