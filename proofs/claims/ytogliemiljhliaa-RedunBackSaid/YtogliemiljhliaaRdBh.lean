import Derived.Test.YtogliemiljhliaaRdXc
set_option linter.unusedSimpArgs false
set_option linter.unusedVariables false
namespace Go.Proofs.Ytogliemiljhliaa
open Go.Sim Ext
set_option maxRecDepth 100000
structure From2(m:Nat)(A:Nat->Ext.Vec)(S:St)(W:Nat->Ext.Vec):Prop where
 col:∀k,k<S.bound.length->W k=A (S.bound.getD k 0)
 one:∀k,S.bound.length<=k->k<m->vn m (W k)<=1
theorem Good.step2{m n:Nat}{A:Nat->Ext.Vec}{K:Nat}{S:St}{W:Nat->Ext.Vec}{s:Int}(g:Good m n A K S W s)(f:From2 m A S W)(hA:∀j,j<n->vn m (A j)<=K){c:Nat}(hc:c<n):∃W' s',Good m n A K (Go.Proofs.Ytogliemiljhliaa.step m S c) W' s'/\From2 m A (Go.Proofs.Ytogliemiljhliaa.step m S c) W':=by
 unfold Go.Proofs.Ytogliemiljhliaa.step;split
 ·rename_i hb
  cases hp:pick S.R c (m-S.bound.length) S.bound.length with
  |none=>exact⟨W,s,g,f⟩
  |some i=>
   obtain⟨h1,h2,h3,_⟩:=pick_some hp;obtain⟨s',g'⟩:=g.swap hb (b:=i) (by omega);have hv:swp S.R S.bound.length i S.bound.length c=S.R i c:=by unfold swp sw;rw[if_pos rfl]
   refine⟨_,s',(g'.clear hA hb hc (by simp only;rw[hv];exact h3)).1,fun k hk=>?_,fun k hk hm=>?_⟩
   ·simp only[List.length_append,List.length_singleton]at hk
    show put (fun i'=>W (sw S.bound.length i i')) S.bound.length (A c) k=A ((S.bound++[c]).getD k 0);unfold put;by_cases q:k=S.bound.length
    ·rw[if_pos q,q,getD_last]
    ·rw[if_neg q,getD_app (by omega)]
     show W (sw S.bound.length i k)=_;rw[sw_lt (by omega) (by omega)];exact f.col k (by omega)
   ·simp only[List.length_append,List.length_singleton]at hk
    show vn m (put (fun i'=>W (sw S.bound.length i i')) S.bound.length (A c) k)<=1;unfold put;rw[if_neg (by omega)];obtain⟨q1,q2⟩:=sw_ge (a:=S.bound.length) (b:=i) (m:=m) h1 (by omega) (show S.bound.length<=k by omega) hm;exact f.one _ q1 q2
 ·exact⟨W,s,g,f⟩
theorem Good.run2{m n:Nat}{A:Nat->Ext.Vec}{K:Nat}{S:St}{W:Nat->Ext.Vec}{s:Int}(g:Good m n A K S W s)(f:From2 m A S W)(hA:∀j,j<n->vn m (A j)<=K):∀c,c<=n->∃W' s',Good m n A K (Go.Proofs.Ytogliemiljhliaa.run m S c) W' s'/\From2 m A (Go.Proofs.Ytogliemiljhliaa.run m S c) W'
 |0,_=>⟨W,s,g,f⟩
 |c+1,h=>by
  obtain⟨W',s',g',f'⟩:=Good.run2 g f hA c (by omega);exact g'.step2 f' hA (by omega)
theorem cube_le:∀v:Nat,v*v*v<=3 ^ v
 |0=>by decide
 |1=>by decide
 |2=>by decide
 |3=>by decide
 |v+4=>by
  have ih:=cube_le (v+3);rw[Nat.pow_succ];refine Nat.le_trans ?_ (Nat.mul_le_mul_right 3 ih);have:v+4<=(v+3)+1:=Nat.le_refl _;generalize hw:v+3=w;rw[show v+4=w+1 by omega];have h3:3<=w:=by omega
  have e:(w+1)*(w+1)*(w+1)=w*w*w+3*(w*w)+3*w+1:=by grind
  have a:3*(w*w)<=w*w*w:=by rw[Nat.mul_comm (w*w) w];exact Nat.mul_le_mul_right _ h3
  have b:9*w<=w*w*w:=by
   have:9<=w*w:=Nat.mul_le_mul h3 h3;exact Nat.mul_le_mul_right _ this
  omega
def sumT(f:Nat->Nat):Nat->Nat
 |0=>0
 |k+1=>sumT f k+f k
theorem prodB_cube{b w:Nat->Nat}:∀k,(∀j,j<k->b j*b j*b j<=3 ^ w j)->prodB b k*prodB b k*prodB b k<=3 ^ sumT w k
 |0,_=>by show 1*1*1<=3 ^ 0;decide
 |k+1,h=>by
  have h1:=prodB_cube k (fun j hj=>h j (by omega));have h2:=h k (by omega);show(b k*prodB b k)*(b k*prodB b k)*(b k*prodB b k)<=3 ^ (sumT w k+w k);rw[Nat.pow_add];refine Nat.le_trans (Nat.le_of_eq ?_) (Nat.mul_le_mul h1 h2);grind
theorem sumT_int(f:Nat->Nat):∀k,(sumT f k:Int)=sumN (fun j=>(f j:Int)) k
 |0=>rfl
 |k+1=>by show((sumT f k+f k:Nat):Int)=sumN _ k+f k;rw[<-sumT_int f k];omega
theorem vn_int(m:Nat)(v:Ext.Vec):∀k,(vn k v:Int)=sumN (fun r=>((v r).natAbs:Int)) k
 |0=>rfl
 |k+1=>by show((vn k v+(v k).natAbs:Nat):Int)=sumN (fun r=>((v r).natAbs:Int)) k+((v k).natAbs:Int);rw[<-vn_int m v k];omega
theorem sumN_le{f g:Nat->Int}:∀n,(∀k,k<n->f k<=g k)->sumN f n<=sumN g n
 |0,_=>Int.le_refl _
 |n+1,h=>by
  have h1:=sumN_le n (fun k hk=>h k (by omega));have h2:=h n (by omega);show sumN f n+f n<=sumN g n+g n;omega
theorem sum_inj{T:Nat->Nat}{f:Nat->Int}{n:Nat}(f0:∀j,j<n->0<=f j){r:Nat}(hT:∀k,k<r->T k<n)(inj:∀j k,j<r->k<r->T j=T k->j=k):sumN (fun k=>f (T k)) r<=sumN f n:=by
 rw[sumN_congr (g:=fun k=>sumN (fun j=>if j=T k then f j else 0) n) r (fun k hk=>by rw[sumN_one (i:=T k) n (hT k hk) (fun j hj hne=>if_neg hne),if_pos rfl]),sumN_comm (fun j k=>if j=T k then f j else 0) r n];refine sumN_le n (fun j hj=>?_);by_cases q:∃k,k<r/\T k=j
 ·obtain⟨k,hk,rfl⟩:=q
  rw[sumN_one (i:=k) r hk (fun i hi hne=>if_neg (fun e=>hne (inj i k hi hk e.symm))),if_pos rfl];exact Int.le_refl _
 ·rw[sumN_zero r (fun k hk=>if_neg (fun e=>q ⟨k,hk,e.symm⟩))]
  exact f0 j hj
theorem sumN_ext0{f:Nat->Int}{r m:Nat}(h:r<=m)(z:∀k,r<=k->k<m->f k=0):sumN f m=sumN f r:=by
 induction m with
 |zero=>rw[show r=0 by omega]
 |succ m ih=>
  by_cases q:r=m+1
  ·rw[q]
  ·show sumN f m+f m=_
   rw[ih (by omega) (fun k h1 h2=>z k h1 (by omega)),z m (by omega) (by omega),Int.add_zero]
theorem vol_diff{m n r:Nat}{A:Nat->Ext.Vec}{W:Nat->Ext.Vec}{T:Nat->Nat}(hr:r<=m)(hT:∀k,k<r->T k<n)(inj:∀j k,j<r->k<r->T j=T k->j=k)(hW:∀k,k<r->W k=A (T k))(h1:∀k,r<=k->k<m->vn m (W k)<=1)(hs:sumN (fun j=>(vn m (A j):Int)) n<=30):(vol m W).natAbs<=59049:=by
 have h:=vol_bound (m:=m) (W:=W) (b:=fun k=>vn m (W k)) (fun j hj=>Nat.le_refl _);have hc:=prodB_cube (b:=fun k=>vn m (W k)) (w:=fun k=>if k<r then vn m (A (T k))else 0) m (fun k hk=>by
  by_cases q:k<r
  ·simp only[if_pos q,hW k q];exact cube_le _
  ·simp only[if_neg q]
   have:=h1 k (by omega) hk;have:vn m (W k)=0\/vn m (W k)=1:=by omega
   rcases this with e|e<;>rw[e]<;>decide)
 have hsum:sumT (fun k=>if k<r then vn m (A (T k))else 0) m<=30:=by
  have e:=sumT_int (fun k=>if k<r then vn m (A (T k))else 0) m;rw[sumN_ext0 hr (fun k k0 k1=>by simp only[if_neg (show ¬k<r by omega)];rfl),sumN_congr (g:=fun k=>(vn m (A (T k)):Int)) r (fun k hk=>by simp only[if_pos hk])]at e;have:=sum_inj (T:=T) (f:=fun j=>(vn m (A j):Int)) (n:=n) (fun j _=>Int.natCast_nonneg _) hT inj;omega
 have h30:prodB (fun k=>vn m (W k)) m*prodB (fun k=>vn m (W k)) m*prodB (fun k=>vn m (W k)) m<=3 ^ 30:=Nat.le_trans hc (Nat.pow_le_pow_right (by decide) hsum);generalize prodB (fun k=>vn m (W k)) m=P at *;have:P<=59049:=by
  refine Decidable.byContradiction (fun q=>?_);have:59050*59050*59050<=P*P*P:=Nat.mul_le_mul (Nat.mul_le_mul (by omega) (by omega)) (by omega);have e:(3:Nat) ^ 30=205891132094649:=by decide
  omega
 omega
end Go.Proofs.Ytogliemiljhliaa
namespace Go.Proofs.Ytogliemiljhliaa
open Go.Sim Ext
set_option maxRecDepth 100000
theorem sw_sw(a b i:Nat):sw a b (sw a b i)=i:=by
 unfold sw;by_cases h1:i=a
 ·rw[if_pos h1]
  by_cases h:b=a
  ·rw[if_pos h];omega
  ·rw[if_neg h,if_pos rfl];omega
 ·rw[if_neg h1]
  by_cases h2:i=b
  ·rw[if_pos h2,if_pos rfl];omega
  ·rw[if_neg h2,if_neg h1,if_neg h2]
theorem dep:∀(n f:Nat) (v:Nat->Nat->Int),n<f->∃c:Nat->Int,(∃i,i<f/\c i≠0)/\∀y,y<n->sumN (fun i=>c i*v i y) f=0
 |0,f,v,h=>⟨fun _=>1,⟨0,h,by decide⟩,fun y hy=>absurd hy (Nat.not_lt_zero y)⟩
 |n+1,f,v,h=>by
  obtain⟨f,rfl⟩:∃g,f=g+1:=⟨f-1,by omega⟩;have last:∀v:Nat->Nat->Int,v f n≠0->∃c:Nat->Int,(∃i,i<f+1/\c i≠0)/\∀y,y<n+1->sumN (fun i=>c i*v i y) (f+1)=0:=fun v hv=>by
   obtain⟨c,⟨i,hi,ci⟩,hc⟩:=dep n f (fun i y=>v f n*v i y-v i n*v f y) (by omega);refine⟨fun i=>if i<f then v f n*c i else -sumN (fun i=>c i*v i n) f,⟨i,by omega,by simp only[if_pos hi];exact Int.mul_ne_zero hv ci⟩,fun y hy=>?_⟩;have e:sumN (fun i=>(if i<f then v f n*c i else -sumN (fun i=>c i*v i n) f)*v i y) (f+1)=v f n*sumN (fun i=>c i*v i y) f + -sumN (fun i=>c i*v i n) f*v f y:=by
    show sumN _ f+(if f<f then _ else _)*v f y=_;rw[if_neg (Nat.lt_irrefl f),sumN_congr (g:=fun i=>v f n*(c i*v i y)) f (fun k hk=>by simp only[if_pos hk];rw[Int.mul_assoc]),sumN_mul]
   rw[e];by_cases q:y=n
   ·subst q
    rw[Int.neg_mul,Int.mul_comm (v f y)];omega
   ·have:=hc y (by omega)
    rw[sumN_congr (g:=fun i=>v f n*(c i*v i y) + -v f y*(c i*v i n)) f (fun k hk=>by grind),sumN_add (fun i=>v f n*(c i*v i y)) (fun i=>-v f y*(c i*v i n)),sumN_mul,sumN_mul]at this;rw[Int.neg_mul]at this ⊢;rw[Int.mul_comm (sumN (fun i=>c i*v i n) f)];exact this
  by_cases q:∃p,p<f+1/\v p n≠0
  ·obtain⟨p,hp,hv⟩:=q
   obtain⟨c,⟨i,hi,ci⟩,hc⟩:=last (fun i=>v (sw p f i)) (by
    show v (sw p f f) n≠0;unfold sw;by_cases w:f=p
    ·rw[if_pos w,w];exact hv
    ·rw[if_neg w,if_pos rfl];exact hv)
   have hsw:sw p f i<f+1:=by unfold sw;split<;>(try split)<;>omega
   refine⟨fun i=>c (sw p f i),⟨sw p f i,hsw,by simp only[sw_sw];exact ci⟩,fun y hy=>?_⟩;rw[<-sumN_swap (f:=fun i=>c (sw p f i)*v i y) hp (show f<f+1 by omega)];simp only[sw_sw];exact hc y hy
  ·obtain⟨c,hi,hc⟩:=dep n (f+1) v (by omega)
   refine⟨c,hi,fun y hy=>?_⟩;by_cases w:y=n
   ·subst w
    exact sumN_zero _ (fun k hk=>by
     have:v k y=0:=Decidable.byContradiction (fun z=>q ⟨k,hk,z⟩);rw[this,Int.mul_zero])
   ·exact hc y (by omega)
theorem cls_ix{l:List Int}{k:Int}(k0:0<=k)(k1:k<(clsL l).length):ixI (clsL l) (gt (clsL l) k)=k:=by
 obtain⟨h1,h2,h3⟩:=ixI_mem (gt_mem (clsL l) k0 k1);have lt:=clsL_lt l;rw[List.pairwise_iff_getElem]at lt;have g:∀j:Int,0<=j->(hj:j<(clsL l).length)->gt (clsL l) j=(clsL l)[j.toNat]'(by omega):=fun j j0 j1=>by
  unfold gt;rw[List.getD_eq_getElem?_getD,List.getElem?_eq_getElem (show j.toNat<(clsL l).length by omega)];rfl
 generalize ixI (clsL l) (gt (clsL l) k)=j at *;rw[g j h1 h2,g k k0 k1]at h3;refine Decidable.byContradiction (fun q=>?_);rcases Int.lt_or_gt_of_ne q with w|w
 ·have:=lt j.toNat k.toNat (by omega) (by omega) (by omega)
  omega
 ·have:=lt k.toNat j.toNat (by omega) (by omega) (by omega)
  omega
theorem deg_zero{l:List Int}(ln:Line l){v:Nat->Int}(hv:Deg l v)(h0:∀y,y<l.length->v y=0):∀y,y<wid l->v y=0:=fun y hy=>by
 by_cases q:y<l.length
 ·exact h0 y q
 have wdef:wid l=l.length+(clsL l).length:=rfl;have hm:=gt_mem (clsL l) (i:=(y:Int)-l.length) (by omega) (by omega);have hd:=(mem_diffs ln).2 hm;unfold diffs at hd;obtain⟨p,hp,e⟩:=List.mem_map.1 hd;have:=hv p hp;obtain⟨p0,p1,p2⟩:=mem_pairs.1 hp;rw[row_sum ln hp,h0 p.i.toNat (by omega),h0 p.j.toNat (by omega),e,cls_ix (by omega) (by omega),show((l.length:Int)+((y:Int)-l.length)).toNat=y by omega]at this;omega
theorem free_few{l:List Int}(ln:Line l){S:St}(e:Ech (pairsL l.length).length S (wid l))(hn:∀v,Deg l v↔Nul (wid l) (pairsL l.length).length S.R v):(freeL S (wid l)).length<=l.length:=by
 refine Decidable.byContradiction (fun q=>?_);obtain⟨F,hF⟩:∃F,F=freeL S (wid l):=⟨_,rfl⟩;rw[<-hF]at q;have fm:∀i,i<F.length->F.getD i 0<wid l/\F.getD i 0∉S.bound:=fun i hi=>by
  have:F.getD i 0∈F:=mem_bound.2 ⟨i,hi,rfl⟩;rw[hF]at this ⊢;exact mem_free.1 this
 have nd:F.Nodup:=by rw[hF];exact(List.nodup_range).filter _
 have inj:∀i j,i<F.length->j<F.length->F.getD i 0=F.getD j 0->i=j:=fun i j hi hj h=>by
  rw[List.getD_eq_getElem?_getD,List.getD_eq_getElem?_getD,List.getElem?_eq_getElem hi,List.getElem?_eq_getElem hj]at h;have pw:=List.pairwise_iff_getElem.1 nd;simp only[Option.getD_some]at h;refine Decidable.byContradiction (fun q=>?_);rcases Nat.lt_or_gt_of_ne q with w|w
  ·exact pw i j hi hj w h
  ·exact pw j i hj hi w h.symm
 obtain⟨c,⟨i,hi,ci⟩,hc⟩:=dep l.length F.length (fun i y=>bV S (F.getD i 0) y) (by omega);have deg:Deg l (fun y=>sumN (fun i=>c i*bV S (F.getD i 0) y) F.length):=fun p hp=>by
  rw[sumN_congr (g:=fun j=>sumN (fun i=>c i*(gt (rowF l p) (j:Int)*bV S (F.getD i 0) j)) F.length) (wid l) (fun j hj=>by
   rw[<-sumN_mul];exact sumN_congr _ (fun k hk=>by grind)),sumN_comm (fun i j=>c i*(gt (rowF l p) (j:Int)*bV S (F.getD i 0) j)) (wid l) F.length]
  refine sumN_zero _ (fun k hk=>?_);rw[sumN_mul,(hn _).2 (bV_nul e (fm k hk).1 (fm k hk).2) p hp,Int.mul_zero]
 have z:=deg_zero ln deg hc (F.getD i 0) (fm i hi).1;rw[sumN_one (i:=i) _ hi (fun k hk hne=>by rw[bV_free (fm i hi).2 (fun w=>hne (inj k i hk hi w.symm)),Int.mul_zero]),bV_self e (fm i hi).2]at z;exact Int.mul_ne_zero ci e.lead z
