import Derived.Test.YtogliemiljhliaaExtA
set_option linter.unusedSimpArgs false
set_option linter.unusedVariables false
namespace Go.Proofs.Ytogliemiljhliaa
open Ext
def sw(a b i:Nat):Nat:=if i=a then b else if i=b then a else i
theorem sumN_swap{f:Nat->Int}{m a b:Nat}(ha:a<m)(hb:b<m):sumN (fun i=>f (sw a b i)) m=sumN f m:=by
 by_cases e:a=b
 ·subst e
  exact sumN_congr m (fun k hk=>by unfold sw;split<;>(try split)<;>simp_all)
 have h1:sumN (fun i=>f (sw a b i)) m=sumN (fun i=>(f i+(if i=a then f b-f a else 0))+(if i=b then f a-f b else 0)) m:=sumN_congr m (fun k hk=>by
  unfold sw;by_cases c:k=a
  ·subst c;rw[if_pos rfl,if_pos rfl,if_neg e];omega
  ·rw[if_neg c,if_neg c]
   by_cases d:k=b
   ·subst d;rw[if_pos rfl,if_pos rfl];omega
   ·rw[if_neg d,if_neg d];omega)
 rw[h1,sumN_add (fun i=>f i+(if i=a then f b-f a else 0)) (fun i=>if i=b then f a-f b else 0),sumN_add f (fun i=>if i=a then f b-f a else 0),
  sumN_one (f:=fun i=>if i=a then f b-f a else 0) (i:=a) m ha (fun k hk hne=>if_neg hne),sumN_one (f:=fun i=>if i=b then f a-f b else 0) (i:=b) m hb (fun k hk hne=>if_neg hne),if_pos rfl,if_pos rfl]
 omega
theorem put_comm{W:Nat->Vec}{i j:Nat}(h:i≠j){x y:Vec}:put (put W i x) j y=put (put W j y) i x:=by
 funext k;unfold put
 by_cases c:k=j
 ·rw[if_pos c,if_neg (by omega),if_pos c]
 ·rw[if_neg c]
  by_cases d:k=i
  ·rw[if_pos d,if_pos d]
  ·rw[if_neg d,if_neg d,if_neg c]
theorem vol_same{m:Nat}{W:Nat->Vec}{a b:Nat}(ha:a<m)(hb:b<m)(e:a≠b)(x:Vec):vol m (put (put W a x) b x)=0:=by
 rcases Nat.lt_or_gt_of_ne e with q|q
 ·exact vol_twice (W:=put (put W a x) b x) hb q (fun r hr=>by unfold put;rw[if_pos rfl,if_neg (by omega),if_pos rfl])
 ·exact vol_twice (W:=put (put W a x) b x) ha q (fun r hr=>by unfold put;rw[if_neg (by omega),if_pos rfl,if_pos rfl])
theorem vol_swap{m:Nat}{W:Nat->Vec}{a b:Nat}(ha:a<m)(hb:b<m)(e:a≠b):vol m (fun i=>W (sw a b i))=-vol m W:=by
 have e1:(fun i=>W (sw a b i))=put (put W a (W b)) b (W a):=by
  funext k;unfold put sw
  by_cases c:k=b
  ·subst c;rw[if_pos rfl,if_neg (fun q=>e q.symm),if_pos rfl]
  ·rw[if_neg c,if_neg c]
   by_cases d:k=a
   ·rw[if_pos d,if_pos d]
   ·rw[if_neg d,if_neg d]
 have e2:W=put (put W a (W a)) b (W b):=by
  funext k;unfold put
  by_cases c:k=b
  ·rw[if_pos c,c]
  ·rw[if_neg c]
   by_cases d:k=a
   ·rw[if_pos d,d]
   ·rw[if_neg d]
 have key:=vol_same (W:=W) ha hb e (fun r=>1*W a r+1*W b r);rw[vol_lin hb,put_comm e,put_comm e,vol_lin ha,vol_lin ha,put_comm (fun q=>e q.symm),put_comm (fun q=>e q.symm),put_comm (fun q=>e q.symm),put_comm (fun q=>e q.symm),vol_same ha hb e,vol_same ha hb e,<-e1,<-e2]at key;omega
structure St where
 R:Nat->Nat->Int
 bound:List Nat
 lead:Int
def pick(R:Nat->Nat->Int)(c:Nat):Nat->Nat->Option Nat
 |0,_=>none
 |k+1,i=>if R i c=0 then pick R c k (i+1)else some i
theorem pick_some{R:Nat->Nat->Int}{c:Nat}:∀{k i r:Nat},pick R c k i=some r->i<=r/\r<i+k/\R r c≠0/\∀j,i<=j->j<r->R j c=0
 |0,i,r,h=>by cases h
 |k+1,i,r,h=>by
  unfold pick at h;split at h
  ·rename_i z
   obtain⟨h1,h2,h3,h4⟩:=pick_some h;exact⟨by omega,by omega,h3,fun j j0 j1=>by
    by_cases e:j=i
    ·rw[e];exact z
    ·exact h4 j (by omega) j1⟩
  ·rename_i z
   cases h;exact⟨Nat.le_refl _,by omega,z,fun j j0 j1=>by omega⟩
theorem pick_none{R:Nat->Nat->Int}{c:Nat}:∀{k i:Nat},pick R c k i=none->∀j,i<=j->j<i+k->R j c=0
 |0,i,h,j,j0,j1=>by omega
 |k+1,i,h,j,j0,j1=>by
  unfold pick at h;split at h
  ·rename_i z
   by_cases e:j=i
   ·rw[e];exact z
   ·exact pick_none h j (by omega) (by omega)
  ·cases h
def swp(R:Nat->Nat->Int)(a b:Nat):Nat->Nat->Int:=fun i=>R (sw a b i)
def clrF(R:Nat->Nat->Int)(k c:Nat)(lead:Int):Nat->Nat->Int:=fun i j=>if i=k then R i j else(R k c*R i j-R i c*R k j).tdiv lead
def step(m:Nat)(S:St)(c:Nat):St:=
 if S.bound.length<m then
  match pick S.R c (m-S.bound.length) S.bound.length with
  |none=>S
  |some i=>⟨clrF (swp S.R S.bound.length i) S.bound.length c S.lead,S.bound++[c],swp S.R S.bound.length i S.bound.length c⟩
 else S
def run(m:Nat)(S:St):Nat->St
 |0=>S
 |c+1=>step m (run m S c) c
structure Good(m n:Nat)(A:Nat->Vec)(K:Nat)(S:St)(W:Nat->Vec)(s:Int):Prop where
 sgn:s=1\/s=-1
 lead:S.lead≠0
 vol:vol m W=s*S.lead
 col:∀j r,j<=n->r<m->S.lead*A j r=sumN (fun i=>S.R i j*W i r) m
 few:∀i,i<m->vn m (W i)<=K
theorem Good.ss{m n:Nat}{A:Nat->Vec}{K:Nat}{S:St}{W:Nat->Vec}{s:Int}(g:Good m n A K S W s):s*s=1:=by rcases g.sgn with h|h<;>rw[h]<;>rfl
theorem cancel{a b c:Int}(ha:a≠0)(h:a*b=a*c):b=c:=Int.eq_of_mul_eq_mul_left ha h
theorem vol_mul{m:Nat}{W:Nat->Vec}{i:Nat}(hi:i<m)(a:Vec)(x:Int):vol m (put W i (fun r=>x*a r))=x*vol m (put W i a):=by
 have:=vol_lin (W:=W) hi a a x 0;have e:(fun r=>x*a r+0*a r)=fun r=>x*a r:=by funext r;omega
 rw[e]at this;rw[this];omega
theorem Good.val{m n:Nat}{A:Nat->Vec}{K:Nat}{S:St}{W:Nat->Vec}{s:Int}(g:Good m n A K S W s){i j:Nat}(hi:i<m)(hj:j<=n):Ext.vol m (put W i (A j))=s*S.R i j:=by
 have h:=cramer (W:=W) hi (a:=fun r=>S.lead*A j r) (x:=fun k=>S.R k j) (fun r hr=>g.col j r hj hr);rw[vol_mul hi,g.vol]at h;exact cancel g.lead (by rw[h];grind)
theorem vol_put_bound{m:Nat}{W:Nat->Vec}{K L i:Nat}{a:Vec}(hi:i<m)(hW:∀j,j<m->vn m (W j)<=K)(ha:vn m a<=L):(vol m (put W i a)).natAbs<=L*K ^ (m-1):=by
 have:=vol_bound (m:=m) (W:=put W i a) (b:=fun j=>if j=i then L else K) (fun j hj=>by
  unfold put;by_cases e:j=i
  ·simp only[if_pos e];exact ha
  ·simp only[if_neg e];exact hW j hj)
 rw[prodB_put m hi]at this;exact this
theorem Good.small{m n:Nat}{A:Nat->Vec}{K:Nat}{S:St}{W:Nat->Vec}{s:Int}(g:Good m n A K S W s){i j L:Nat}(hi:i<m)(hj:j<=n)(hL:vn m (A j)<=L):(S.R i j).natAbs<=L*K ^ (m-1):=by
 have h:=vol_put_bound hi g.few hL;rw[g.val hi hj]at h;rcases g.sgn with e|e<;>rw[e]at h<;>omega
theorem Good.leadS{m n:Nat}{A:Nat->Vec}{K:Nat}{S:St}{W:Nat->Vec}{s:Int}(g:Good m n A K S W s):S.lead.natAbs<=K ^ m:=by
 have h:=vol_bound (m:=m) (W:=W) (b:=fun _=>K) g.few;rw[prodB_const,g.vol]at h;rcases g.sgn with e|e<;>rw[e]at h<;>omega
theorem Good.swap{m n:Nat}{A:Nat->Vec}{K:Nat}{S:St}{W:Nat->Vec}{s:Int}(g:Good m n A K S W s){a b:Nat}(ha:a<m)(hb:b<m):∃s',Good m n A K ⟨swp S.R a b,S.bound,S.lead⟩ (fun i=>W (sw a b i)) s':=by
 have hc:∀j r,j<=n->r<m->S.lead*A j r=sumN (fun i=>swp S.R a b i j*W (sw a b i) r) m:=fun j r hj hr=>by
  rw[g.col j r hj hr];exact(sumN_swap (f:=fun i=>S.R i j*W i r) ha hb).symm
 have hf:∀i,i<m->vn m (W (sw a b i))<=K:=fun i hi=>g.few _ (by unfold sw;split<;>(try split)<;>omega)
 by_cases e:a=b
 ·subst e
  have ew:(fun i=>W (sw a a i))=W:=by funext i;unfold sw;split<;>(try split)<;>simp_all
  exact⟨s,g.sgn,g.lead,by rw[ew];exact g.vol,hc,hf⟩
 ·refine⟨-s,?_,g.lead,by rw[vol_swap ha hb e,g.vol];show -(s*S.lead)=-s*S.lead;rw[Int.neg_mul],hc,hf⟩
  rcases g.sgn with h|h
  ·exact .inr (by rw[h])
  ·exact .inl (by rw[h];rfl)
theorem Good.clear{m n:Nat}{A:Nat->Vec}{K:Nat}{S:St}{W:Nat->Vec}{s:Int}(g:Good m n A K S W s)(hA:∀j,j<n->vn m (A j)<=K){k c:Nat}(hk:k<m)(hc:c<n)(hp:S.R k c≠0) :
  Good m n A K ⟨clrF S.R k c S.lead,S.bound++[c],S.R k c⟩ (put W k (A c)) s/\∀i j,i<m->j<=n->i≠k->S.R k c*S.R i j-S.R i c*S.R k j=S.lead*clrF S.R k c S.lead i j:=by
 have hv:Ext.vol m (put W k (A c))=s*S.R k c:=g.val hk (by omega);have hs:s≠0:=by rcases g.sgn with h|h<;>rw[h]<;>decide
 have key:∀j r,j<=n->r<m->S.R k c*(S.lead*A j r)=sumN (fun i=>(if i=k then S.lead*S.R k j else S.R k c*S.R i j-S.R i c*S.R k j)*put W k (A c) i r) m:=fun j r hj hr=>by
  have e:∀i,i<m->(if i=k then S.lead*S.R k j else S.R k c*S.R i j-S.R i c*S.R k j)*put W k (A c) i r=(S.R k c*(S.R i j*W i r)+(-S.R k j)*(S.R i c*W i r))+(if i=k then S.lead*S.R k j*A c r else 0):=fun i hi=>by
   unfold put;by_cases e:i=k
   ·subst e;simp only[if_true];grind
   ·simp only[if_neg e];grind
  rw[sumN_congr m e,sumN_add (fun i=>S.R k c*(S.R i j*W i r)+(-S.R k j)*(S.R i c*W i r)) (fun i=>if i=k then S.lead*S.R k j*A c r else 0),
   sumN_add (fun i=>S.R k c*(S.R i j*W i r)) (fun i=>(-S.R k j)*(S.R i c*W i r)),sumN_mul,sumN_mul,<-g.col j r hj hr,<-g.col c r (by omega) hr,
   sumN_one (f:=fun i=>if i=k then S.lead*S.R k j*A c r else 0) (i:=k) m hk (fun k hk hne=>if_neg hne),if_pos rfl]
  grind
 have exact_:∀i j,i<m->j<=n->i≠k->∃Q,S.R k c*S.R i j-S.R i c*S.R k j=S.lead*Q:=fun i j hi hj hne=>by
  have h:=cramer (W:=put W k (A c)) hi (a:=fun r=>S.R k c*(S.lead*A j r)) (fun r hr=>key j r hj hr);simp only[if_neg hne]at h;have e2:(fun r=>S.R k c*(S.lead*A j r))=fun r=>(S.R k c*S.lead)*A j r:=by funext r;rw[Int.mul_assoc]
  rw[e2,vol_mul hi,hv]at h;refine⟨s*Ext.vol m (put (put W k (A c)) i (A j)),?_⟩;have ss:=g.ss;refine cancel hp (cancel hs ?_);generalize Ext.vol m (put (put W k (A c)) i (A j))=V at *;grind
 have div:∀i j,i<m->j<=n->i≠k->S.R k c*S.R i j-S.R i c*S.R k j=S.lead*clrF S.R k c S.lead i j:=fun i j hi hj hne=>by
  obtain⟨Q,hQ⟩:=exact_ i j hi hj hne;unfold clrF;rw[if_neg hne,hQ,Int.mul_tdiv_cancel_left _ g.lead]
 refine⟨⟨g.sgn,hp,hv,fun j r hj hr=>cancel g.lead ?_,fun i hi=>?_⟩,div⟩
 ·show S.lead*(S.R k c*A j r)=S.lead*sumN (fun i=>clrF S.R k c S.lead i j*put W k (A c) i r) m
  rw[<-sumN_mul,show S.lead*(S.R k c*A j r)=S.R k c*(S.lead*A j r) by grind,key j r hj hr];refine sumN_congr m (fun i hi=>?_);by_cases e:i=k
  ·subst e
   unfold clrF;simp only[if_true];rw[Int.mul_assoc]
  ·simp only[if_neg e]
   rw[div i j hi hj e,Int.mul_assoc]
 ·unfold put
  split
  ·exact hA c hc
  ·exact g.few i hi
theorem Good.step{m n:Nat}{A:Nat->Vec}{K:Nat}{S:St}{W:Nat->Vec}{s:Int}(g:Good m n A K S W s)(hA:∀j,j<n->vn m (A j)<=K){c:Nat}(hc:c<n):∃W' s',Good m n A K (step m S c) W' s':=by
 unfold Go.Proofs.Ytogliemiljhliaa.step;split
 ·rename_i hb
  cases hp:pick S.R c (m-S.bound.length) S.bound.length with
  |none=>exact⟨W,s,g⟩
  |some i=>
   obtain⟨h1,h2,h3,_⟩:=pick_some hp;obtain⟨s',g'⟩:=g.swap hb (b:=i) (by omega);have hv:swp S.R S.bound.length i S.bound.length c=S.R i c:=by unfold swp sw;rw[if_pos rfl]
   exact⟨_,s',(g'.clear hA hb hc (by simp only;rw[hv];exact h3)).1⟩
 ·exact⟨W,s,g⟩
theorem Good.run{m n:Nat}{A:Nat->Vec}{K:Nat}{S:St}{W:Nat->Vec}{s:Int}(g:Good m n A K S W s)(hA:∀j,j<n->vn m (A j)<=K):∀c,c<=n->∃W' s',Good m n A K (run m S c) W' s'
 |0,_=>⟨W,s,g⟩
 |c+1,h=>by
  obtain⟨W',s',g'⟩:=Good.run g hA c (by omega);exact g'.step hA (by omega)
theorem Good.start{m n:Nat}{A:Nat->Vec}{K:Nat}(hK:1<=K):Good m n A K ⟨fun i j=>A j i,[],1⟩ E 1:=
 ⟨.inl rfl,(show(1:Int)≠0 by decide),by rw[vol_unit];rfl,fun j r hj hr=>by rw[sum_unit (x:=fun i=>A j i) hr];show 1*A j r=A j r;omega,fun i hi=>Nat.le_trans (vn_unit m i) hK⟩
