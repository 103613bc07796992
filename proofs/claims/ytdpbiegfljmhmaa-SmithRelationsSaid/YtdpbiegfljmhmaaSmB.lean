import Derived.Test.YtdpbiegfljmhmaaSmA
set_option linter.unusedSimpArgs false
set_option linter.unusedVariables false
namespace Go.Proofs.Ytdpbiegfljmhmaa.Ext
def cnt:List Bool->Nat
 | []=>0
 |true :: I=>cnt I+1
 |false :: I=>cnt I
theorem cnt_top:∀m,cnt (top m)=m
 |0=>rfl
 |m+1=>by show cnt (top m)+1=m+1;rw[cnt_top m]
theorem abs_mul_le{a b:Int}{A B:Nat}(ha:a.natAbs<=A)(hb:b.natAbs<=B):(a*b).natAbs<=A*B:=by
 rw[Int.natAbs_mul];exact Nat.mul_le_mul ha hb
theorem wedge_le:∀(m:Nat) (v:Vec) (w:Om) (I:List Bool) (B:Nat),(∀J,cnt J+1=cnt I->(w J).natAbs<=B)->(wedge m v w I).natAbs<=vn m v*B
 |0,v,w,I,B,h=>by show(0:Int).natAbs<=_;simp
 |m+1,v,w,[],B,h=>by show(0:Int).natAbs<=_;simp
 |m+1,v,w,false :: I,B,h=>by
  have:=wedge_le m v (fun J=>w (false :: J)) I B (fun J hJ=>h (false :: J) hJ);show(wedge m v (fun J=>w (false :: J)) I).natAbs<=(vn m v+(v m).natAbs)*B;rw[Nat.add_mul];omega
 |m+1,v,w,true :: I,B,h=>by
  have h1:=wedge_le m v (fun J=>w (true :: J)) I B (fun J hJ=>h (true :: J) (by show cnt J+1+1=cnt I+1;omega));have h2:(v m*w (false :: I)).natAbs<=(v m).natAbs*B:=abs_mul_le (Nat.le_refl _) (h (false :: I) rfl);show(v m*w (false :: I)-wedge m v (fun J=>w (true :: J)) I).natAbs<=(vn m v+(v m).natAbs)*B;rw[Nat.add_mul];omega
theorem wedge_cnt:∀(m:Nat) (v:Vec) (w:Om) (I:List Bool) (M B:Nat),(∀i,i<m->(v i).natAbs<=M)->(∀J,cnt J+1=cnt I->(w J).natAbs<=B)->(wedge m v w I).natAbs<=cnt I*(M*B)
 |0,v,w,I,M,B,_,_=>by show(0:Int).natAbs<=_;simp
 |m+1,v,w,[],M,B,_,_=>by show(0:Int).natAbs<=_;simp
 |m+1,v,w,false :: I,M,B,hv,h=>wedge_cnt m v (fun J=>w (false :: J)) I M B (fun i hi=>hv i (by omega)) (fun J hJ=>h (false :: J) hJ)
 |m+1,v,w,true :: I,M,B,hv,h=>by
  have h1:=wedge_cnt m v (fun J=>w (true :: J)) I M B (fun i hi=>hv i (by omega)) (fun J hJ=>h (true :: J) (by show cnt J+1+1=cnt I+1;omega));have h2:(v m*w (false :: I)).natAbs<=M*B:=abs_mul_le (hv m (by omega)) (h (false :: I) rfl);show(v m*w (false :: I)-wedge m v (fun J=>w (true :: J)) I).natAbs<=(cnt I+1)*(M*B);rw[Nat.add_mul];omega
def fall:Nat->Nat->Nat
 |_,0=>1
 |c,k+1=>c*fall (c-1) k
theorem prod_cnt{m:Nat}{W:Nat->Vec}{M:Nat}:∀(k:Nat),(∀y,y<k->∀i,i<m->(W y i).natAbs<=M)->∀I,(prod m W k I).natAbs<=fall (cnt I) k*M ^ k
 |0,_,I=>by
  show(unit I).natAbs<=1*1;unfold unit;split<;>simp
 |k+1,h,I=>by
  have:=wedge_cnt m (W k) (prod m W k) I M (fall (cnt I-1) k*M ^ k) (h k (by omega)) (fun J hJ=>by
   have:=prod_cnt k (fun y hy=>h y (by omega)) J;rw[show cnt I-1=cnt J by omega];exact this)
  show(wedge m (W k) (prod m W k) I).natAbs<=cnt I*fall (cnt I-1) k*M ^ (k+1);rw[Nat.pow_succ];have e:cnt I*(M*(fall (cnt I-1) k*M ^ k))=cnt I*fall (cnt I-1) k*(M ^ k*M):=by
   rw[Nat.mul_comm M,Nat.mul_assoc,Nat.mul_assoc]
  omega
theorem prod_twice{m n:Nat}{W:Nat->Vec}{i k:Nat}(hi:i<n)(hk:k<n)(hne:i≠k)(e:∀r,r<m->W i r=W k r):prod m W n=fun _=>0:=by
 have one:∀{i k:Nat},i<n->k<i->(∀r,r<m->W i r=W k r)->prod m W n=fun _=>0:=by
  intro i k hi hk e;have h:prod m W (i+1)=fun _=>0:=by
   funext I
   show wedge m (W i) (prod m W i) I=0;rw[wedge_congr m _ I e,show i=k+1+(i-(k+1)) by omega];exact prod_has _ I
  have:=prod_none h (n-(i+1));rw[show i+1+(n-(i+1))=n by omega]at this;exact this
 rcases Nat.lt_or_gt_of_ne hne with q|q
 ·exact one hk q (fun r hr=>(e r hr).symm)
 ·exact one hi q e
theorem prod_lin{m n:Nat}{W:Nat->Vec}{i:Nat}(hi:i<n)(a b:Vec)(x y:Int)(I:List Bool):prod m (put W i (fun r=>x*a r+y*b r)) n I=x*prod m (put W i a) n I+y*prod m (put W i b) n I:=by
 have:=prod_put (m:=m) (W:=W) (i:=i) (a:=a) (b:=b) (x:=x) (y:=y) (n-(i+1));rw[show i+1+(n-(i+1))=n by omega]at this;rw[this]
theorem prod_zero{m n:Nat}{W:Nat->Vec}{i:Nat}(hi:i<n)(hz:∀r,r<m->W i r=0)(I:List Bool):prod m W n I=0:=by
 have:=prod_lin (m:=m) (W:=W) hi (W i) (W i) 0 0 I;rw[prod_congr (W:=put W i (fun r=>0*W i r+0*W i r)) (V:=W) n (fun j hj r hr=>by
  unfold put;split
  ·rename_i e;rw[e];show 0*W i r+0*W i r=W i r;rw[hz r hr];rfl
  ·rfl)]at this
 omega
theorem prod_sub{m n:Nat}{W:Nat->Vec}{r y:Nat}(hr:r<n)(hy:y<n)(hne:r≠y)(t:Int)(I:List Bool):prod m (put W r (fun j=>W r j-t*W y j)) n I=prod m W n I:=by
 have e:(fun j=>W r j-t*W y j)=(fun j=>1*W r j+(-t)*W y j):=by funext j;rw[Int.neg_mul];omega
 rw[e,prod_lin hr,put_self,prod_twice (W:=put W r (W y)) hr hy hne (fun j _=>by unfold put;rw[if_pos rfl,if_neg (by omega)])];show 1*prod m W n I + -t*0=prod m W n I;omega
theorem put_put_ne{W:Nat->Vec}{i k:Nat}(h:i≠k)(a b:Vec):put (put W i a) k b=put (put W k b) i a:=by
 funext j;unfold put
 by_cases h1:j=k
 ·rw[if_pos h1]
  by_cases h2:j=i
  ·omega
  ·rw[if_neg h2,if_pos h1]
 ·rw[if_neg h1]
  by_cases h2:j=i
  ·rw[if_pos h2,if_pos h2]
  ·rw[if_neg h2,if_neg h2,if_neg h1]
theorem put_same{W:Nat->Vec}{i:Nat}(a b:Vec):put (put W i a) i b=put W i b:=by
 funext j;unfold put;split<;>rfl
theorem prod_swap{m n:Nat}{W:Nat->Vec}{i k:Nat}(hi:i<n)(hk:k<n)(hne:i≠k)(I:List Bool):prod m (put (put W i (W k)) k (W i)) n I=-prod m W n I:=by
 let P:Vec->Vec->Int:=fun a b=>prod m (put (put W i a) k b) n I
 have two:∀a,P a a=0:=fun a=>by
  show prod m (put (put W i a) k a) n I=0;rw[prod_twice (W:=put (put W i a) k a) hi hk hne (fun r _=>by unfold put;rw[if_neg hne,if_pos rfl,if_pos rfl])]
 have lin1:∀a a' b,P (fun r=>1*a r+1*a' r) b=1*P a b+1*P a' b:=fun a a' b=>by
  show prod m (put (put W i _) k b) n I=_;rw[put_put_ne hne,prod_lin hi,<-put_put_ne hne,<-put_put_ne hne]
 have lin2:∀a b b',P a (fun r=>1*b r+1*b' r)=1*P a b+1*P a b':=fun a b b'=>prod_lin hk _ _ _ _ _
 have h:=two (fun r=>1*W i r+1*W k r);rw[lin1,lin2,lin2,two,two]at h;have e1:P (W i) (W k)=prod m W n I:=by
  show prod m (put (put W i (W i)) k (W k)) n I=_;rw[put_self,put_self]
 have e2:P (W k) (W i)=prod m (put (put W i (W k)) k (W i)) n I:=rfl;omega
theorem prod_neg{m n:Nat}{W:Nat->Vec}{i:Nat}(hi:i<n)(I:List Bool):prod m (put W i (fun r=>-(W i r))) n I=-prod m W n I:=by
 have e:(fun r=>-(W i r))=(fun r=>(-1)*W i r+0*W i r):=by funext r;omega
 rw[e,prod_lin hi,put_self];omega
def rv(k:Nat)(F:Nat->Vec)(J:Nat->Nat):Nat->Vec:=fun y i=>F (k-1-y) (J i)
structure Lat(w k:Nat)(F F0:Nat->Vec):Prop where
 le:∀i,i<k->Sp w k F0 (F i)
 ge:∀i,i<k->Sp w k F (F0 i)
 sgn:∃s:Int,(s=1\/s=-1)/\∀d J I,prod d (rv k F J) k I=s*prod d (rv k F0 J) k I
theorem Lat.abs{w k:Nat}{F F0:Nat->Vec}(h:Lat w k F F0)(d:Nat)(J:Nat->Nat)(I:List Bool):(prod d (rv k F J) k I).natAbs=(prod d (rv k F0 J) k I).natAbs:=by
 obtain⟨s,hs,e⟩:=h.sgn;have:=e d J I;rcases hs with rfl|rfl<;>omega
theorem Lat.refl(w k:Nat)(F:Nat->Vec):Lat w k F F:=⟨fun i hi=>Sp.row F hi,fun i hi=>Sp.row F hi,1,.inl rfl,fun _ _ _=>(Int.one_mul _).symm⟩
theorem Lat.trans{w k:Nat}{F F1 F0:Nat->Vec}(h:Lat w k F F1)(h0:Lat w k F1 F0):Lat w k F F0:=by
 obtain⟨s,hs,e⟩:=h.sgn;obtain⟨s0,hs0,e0⟩:=h0.sgn;refine⟨fun i hi=>Sp.le h0.le (h.le i hi),fun i hi=>Sp.le h.ge (h0.ge i hi),s*s0,?_,fun d J I=>by rw[e,e0,Int.mul_assoc]⟩;rcases hs with rfl|rfl<;>rcases hs0 with rfl|rfl<;>simp
theorem rv_put{k:Nat}{F:Nat->Vec}{J:Nat->Nat}{r:Nat}(hr:r<k)(v:Vec):∀y,y<k->∀i,rv k (put F r v) J y i=put (rv k F J) (k-1-r) (fun i=>v (J i)) y i:=by
 intro y hy i;unfold rv put;by_cases e:k-1-y=r
 ·rw[if_pos e,if_pos (by omega)]
 ·rw[if_neg e,if_neg (by omega)]
theorem Lat.sub{w k:Nat}{F:Nat->Vec}{r y:Nat}(hr:r<k)(hy:y<k)(hne:r≠y)(t:Int):Lat w k (put F r (fun j=>F r j-t*F y j)) F:=by
 have hp:∀i,i≠r->put F r (fun j=>F r j-t*F y j) i=F i:=fun i hi=>by unfold put;rw[if_neg hi]
 have hq:put F r (fun j=>F r j-t*F y j) r=fun j=>F r j-t*F y j:=by unfold put;rw[if_pos rfl]
 refine⟨fun i hi=>?_,fun i hi=>?_,1,.inl rfl,fun d J I=>?_⟩
 ·by_cases e:i=r
  ·subst e;rw[hq]
   exact((Sp.row F hr).comb 1 (-t) (Sp.row F hy)).congr (fun j _=>by rw[Int.neg_mul];omega)
  ·rw[hp i e];exact Sp.row F hi
 ·by_cases e:i=r
  ·subst e
   have h1:=Sp.row (w:=w) (put F i (fun j=>F i j-t*F y j)) hr;have h2:=Sp.row (w:=w) (put F i (fun j=>F i j-t*F y j)) hy;rw[hq]at h1;rw[hp y (by omega)]at h2;exact(h1.comb 1 t h2).congr (fun j _=>by omega)
  ·have:=Sp.row (w:=w) (put F r (fun j=>F r j-t*F y j)) hi
   rw[hp i e]at this;exact this
 ·rw[prod_congr k (fun y hy i _=>rv_put hr _ y hy i)]
  have:=prod_sub (m:=d) (n:=k) (W:=rv k F J) (r:=k-1-r) (y:=k-1-y) (by omega) (by omega) (by omega) t I;have e1:(fun i=>rv k F J (k-1-r) i-t*rv k F J (k-1-y) i)=fun i=>F r (J i)-t*F y (J i):=by
   funext i;unfold rv;rw[show k-1-(k-1-r)=r by omega,show k-1-(k-1-y)=y by omega]
  rw[e1]at this;rw[this,Int.one_mul]
def swR(F:Nat->Vec)(a b:Nat):Nat->Vec:=put (put F a (F b)) b (F a)
theorem Lat.swap{w k:Nat}{F:Nat->Vec}{a b:Nat}(ha:a<k)(hb:b<k):Lat w k (swR F a b) F:=by
 by_cases hne:a=b
 ·subst hne;unfold swR;rw[put_self,put_self];exact .refl _ _ _
 have hv:∀i,swR F a b i=if i=b then F a else if i=a then F b else F i:=fun i=>rfl
 refine⟨fun i hi=>?_,fun i hi=>?_,-1,.inr rfl,fun d J I=>?_⟩
 ·rw[hv];split
  ·exact Sp.row F ha
  ·split
   ·exact Sp.row F hb
   ·exact Sp.row F hi
 ·by_cases e:i=a
  ·have:=Sp.row (w:=w) (swR F a b) hb
   rw[hv,if_pos rfl]at this;rw[e];exact this
  ·by_cases e2:i=b
   ·have:=Sp.row (w:=w) (swR F a b) ha
    rw[hv,if_neg hne,if_pos rfl]at this;rw[e2];exact this
   ·have:=Sp.row (w:=w) (swR F a b) hi
    rw[hv,if_neg e2,if_neg e]at this;exact this
 ·have e:∀y,y<k->∀i,i<d->rv k (swR F a b) J y i=put (put (rv k F J) (k-1-a) (rv k F J (k-1-b))) (k-1-b) (rv k F J (k-1-a)) y i:=by
   intro y hy i _;show swR F a b (k-1-y) (J i)=(if y=k-1-b then rv k F J (k-1-a)else if y=k-1-a then rv k F J (k-1-b)else rv k F J y) i;rw[hv];by_cases e1:k-1-y=b
   ·rw[if_pos e1,if_pos (show y=k-1-b by omega)]
    unfold rv;rw[show k-1-(k-1-a)=a by omega]
   ·rw[if_neg e1,if_neg (show ¬y=k-1-b by omega)]
    by_cases e2:k-1-y=a
    ·rw[if_pos e2,if_pos (show y=k-1-a by omega)]
     unfold rv;rw[show k-1-(k-1-b)=b by omega]
    ·rw[if_neg e2,if_neg (show ¬y=k-1-a by omega)];rfl
  rw[prod_congr k e,prod_swap (by omega) (by omega) (by omega)];omega
theorem Lat.neg{w k:Nat}{F:Nat->Vec}{r:Nat}(hr:r<k):Lat w k (put F r (fun j=>-(F r j))) F:=by
 have hp:∀i,i≠r->put F r (fun j=>-(F r j)) i=F i:=fun i hi=>by unfold put;rw[if_neg hi]
 have hq:put F r (fun j=>-(F r j)) r=fun j=>-(F r j):=by unfold put;rw[if_pos rfl]
 refine⟨fun i hi=>?_,fun i hi=>?_,-1,.inr rfl,fun d J I=>?_⟩
 ·by_cases e:i=r
  ·subst e;rw[hq]
   exact((Sp.row F hr).comb (-1) 0 (Sp.row F hr)).congr (fun j _=>by omega)
  ·rw[hp i e];exact Sp.row F hi
 ·by_cases e:i=r
  ·subst e
   have h1:=Sp.row (w:=w) (put F i (fun j=>-(F i j))) hr;rw[hq]at h1;exact(h1.comb (-1) 0 h1).congr (fun j _=>by omega)
  ·have:=Sp.row (w:=w) (put F r (fun j=>-(F r j))) hi
   rw[hp i e]at this;exact this
 ·rw[prod_congr k (fun y hy i _=>rv_put hr _ y hy i)]
  have:=prod_neg (m:=d) (n:=k) (W:=rv k F J) (i:=k-1-r) (by omega) I;have e1:(fun i=>-(rv k F J (k-1-r) i))=fun i=>-(F r (J i)):=by
   funext i;unfold rv;rw[show k-1-(k-1-r)=r by omega]
  rw[e1]at this;rw[this];omega
theorem Lat.of_eq{w k:Nat}{F G:Nat->Vec}(e:∀i,i<k->F i=G i):Lat w k F G:=by
 refine⟨fun i hi=>by rw[e i hi];exact Sp.row G hi,fun i hi=>by rw[<-e i hi];exact Sp.row F hi,1,.inl rfl,fun d J I=>?_⟩;rw[prod_congr k (V:=rv k G J) (fun y hy i _=>by unfold rv;rw[e _ (by omega)]),Int.one_mul]
def consV(v:Vec)(W:Nat->Vec):Nat->Vec:=fun y=>match y with|0=>v|y+1=>W y
theorem prod_cyc:∀k:Nat,∃t:Int,∀(d:Nat) (v:Vec) (W:Nat->Vec),prod d (consV v W) (k+1)=fun I=>t*wedge d v (prod d W k) I
 |0=>⟨1,fun d v W=>by funext I;show wedge d v unit I=1*wedge d v unit I;omega⟩
 |k+1=>by
  obtain⟨t,h⟩:=prod_cyc k;refine⟨-t,fun d v W=>?_⟩
  funext I
  show wedge d (W k) (prod d (consV v W) (k+1)) I=-t*wedge d v (wedge d (W k) (prod d W k)) I;rw[h d v W];have:=wedge_lin d (W k) t 0 (wedge d v (prod d W k)) (fun _=>0) I;have e:(fun J=>t*wedge d v (prod d W k) J+0*(fun _=>(0:Int)) J)=fun J=>t*wedge d v (prod d W k) J:=by funext J;omega
  rw[e]at this;rw[this,wedge_anti,Int.neg_mul,Int.mul_neg];omega
theorem Sp.more{w k:Nat}{F:Nat->Vec}{v u:Vec}(h:Sp w k F v):Sp w (k+1) (put F k u) v:=by
 obtain⟨y,hy⟩:=h;refine⟨fun i=>if i=k then 0 else y i,fun j hj=>?_⟩;show v j=sumN (fun i=>(if i=k then 0 else y i)*put F k u i j) k+(if k=k then 0 else y k)*put F k u k j;have e:sumN (fun i=>(if i=k then 0 else y i)*put F k u i j) k=sumN (fun i=>y i*F i j) k:=sumN_congr k (fun i hi=>by
  show(if i=k then 0 else y i)*(if i=k then u else F i) j=y i*F i j;rw[if_neg (by omega),if_neg (by omega)])
 rw[if_pos rfl,hy j hj,e];omega
theorem Lat.more{w k:Nat}{F F0:Nat->Vec}(h:Lat w k F F0)(v:Vec):Lat w (k+1) (put F k v) (put F0 k v):=by
 have hp:∀(F:Nat->Vec) i,i≠k->put F k v i=F i:=fun F i hi=>by unfold put;rw[if_neg hi]
 have hq:∀(F:Nat->Vec),put F k v k=v:=fun F=>by unfold put;rw[if_pos rfl]
 have hr:∀(F:Nat->Vec) J y,y<k+1->∀i,rv (k+1) (put F k v) J y i=consV (fun i=>v (J i)) (rv k F J) y i:=fun F J y hy i=>by
  cases y with
  |zero=>unfold rv;rw[show k+1-1-0=k by omega,hq];rfl
  |succ y=>unfold rv;rw[hp F _ (by omega),show k+1-1-(y+1)=k-1-y by omega];rfl
 obtain⟨s,hs,e⟩:=h.sgn;obtain⟨t,ht⟩:=prod_cyc k;refine⟨fun i hi=>?_,fun i hi=>?_,s,hs,fun d J I=>?_⟩
 ·by_cases c:i=k
  ·subst c
   have:=Sp.row (w:=w) (put F0 i v) (show i<i+1 by omega);rw[hq]at this;rw[hq];exact this
  ·rw[hp F i c];exact(h.le i (by omega)).more
 ·by_cases c:i=k
  ·subst c
   have:=Sp.row (w:=w) (put F i v) (show i<i+1 by omega);rw[hq]at this;rw[hq];exact this
  ·rw[hp F0 i c];exact(h.ge i (by omega)).more
 ·rw[prod_congr (k+1) (fun y hy i _=>hr F J y hy i),prod_congr (k+1) (fun y hy i _=>hr F0 J y hy i),ht,ht]
  have e1:prod d (rv k F J) k=fun I=>s*prod d (rv k F0 J) k I:=by funext I;exact e d J I
  rw[e1];have:=wedge_lin d (fun i=>v (J i)) s 0 (prod d (rv k F0 J) k) (fun _=>0) I;have e2:(fun K=>s*prod d (rv k F0 J) k K+0*(fun _=>(0:Int)) K)=fun K=>s*prod d (rv k F0 J) k K:=by funext K;omega
  rw[e2]at this;show t*wedge d (fun i=>v (J i)) (fun I=>s*prod d (rv k F0 J) k I) I=s*(t*wedge d (fun i=>v (J i)) (prod d (rv k F0 J) k) I);rw[this,Int.zero_mul,Int.add_zero,<-Int.mul_assoc,<-Int.mul_assoc,Int.mul_comm t s]
def prodL(f:Nat->Int):Nat->Int
 |0=>1
 |k+1=>prodL f k*f k
theorem vol_tri{m:Nat}{W:Nat->Vec}:∀k,k<=m->(∀y,y<k->∀i,y<i->i<m->W y i=0)->prod k W k (top k)=prodL (fun y=>W y y) k
 |0,_,_=>rfl
 |k+1,hk,h=>by
  obtain⟨h1,h2⟩:=prod_low (m:=k) (W:=W) k (fun j hj=>h j (by omega) k hj (by omega));have e2:(fun J=>prod (k+1) W k (true :: J))=fun _=>0:=funext h2
  show W k k*prod (k+1) W k (false :: top k)-wedge k (W k) (fun J=>prod (k+1) W k (true :: J)) (top k)=prodL (fun y=>W y y) k*W k k;rw[e2,wedge_zero,h1,vol_tri k (by omega) (fun y hy i h3 h4=>h y (by omega) i h3 h4)];rw[Int.mul_comm];omega
theorem prod_false{m:Nat}{W:Nat->Vec}:∀(k:Nat) (I:List Bool),prod (m+1) W k (false :: I)=prod m W k I
 |0,I=>rfl
 |k+1,I=>by
  have e:(fun J=>prod (m+1) W k (false :: J))=prod m W k:=funext (prod_false k);show wedge m (W k) (fun J=>prod (m+1) W k (false :: J)) I=wedge m (W k) (prod m W k) I;rw[e]
theorem prodL_congr{f g:Nat->Int}:∀k,(∀i,i<k->f i=g i)->prodL f k=prodL g k
 |0,_=>rfl
 |k+1,h=>by show prodL f k*f k=prodL g k*g k;rw[prodL_congr k (fun i hi=>h i (by omega)),h k (by omega)]
theorem prodL_pos{f:Nat->Int}:∀k,(∀i,i<k->0<f i)->0<prodL f k
 |0,_=>by show(0:Int)<1;omega
 |k+1,h=>Int.mul_pos (prodL_pos k (fun i hi=>h i (by omega))) (h k (by omega))
theorem prodL_ge{f:Nat->Int}:∀k,(∀i,i<k->0<f i)->∀i,i<k->f i<=prodL f k
 |0,_,i,hi=>by omega
 |k+1,h,i,hi=>by
  have p1:=prodL_pos k (fun i hi=>h i (by omega));have p2:=h k (by omega);show f i<=prodL f k*f k;by_cases e:i=k
  ·subst e
   have:=Int.mul_le_mul_of_nonneg_right (show(1:Int)<=prodL f i by omega) (Int.le_of_lt p2);omega
  ·have h1:=prodL_ge k (fun i hi=>h i (by omega)) i (by omega)
   have:=Int.mul_le_mul_of_nonneg_left (show(1:Int)<=f k by omega) (Int.le_of_lt p1);omega
theorem prodL_rev(f:Nat->Int):∀k,prodL (fun i=>f (k-1-i)) k=prodL f k:=by
 have shift:∀k (g:Nat->Int),prodL g (k+1)=g 0*prodL (fun i=>g (i+1)) k:=fun k=>by
  induction k with
  |zero=>intro g;show 1*g 0=g 0*1;omega
  |succ k ih=>intro g;show prodL g (k+1)*g (k+1)=g 0*(prodL (fun i=>g (i+1)) k*g (k+1));rw[ih,Int.mul_assoc]
 intro k
 induction k with
 |zero=>rfl
 |succ k ih=>
  rw[shift];show f (k+1-1-0)*prodL (fun i=>f (k+1-1-(i+1))) k=prodL f k*f k;rw[prodL_congr k (g:=fun i=>f (k-1-i)) (fun i hi=>by rw[show k+1-1-(i+1)=k-1-i by omega]),ih,Int.mul_comm];rfl
def colJ(w k:Nat)(F:Nat->Vec)(j:Nat):Nat->Nat:=fun i=>if i<k then leadV w (F (k-1-i))else j
theorem tri_vol{w k:Nat}{F:Nat->Vec}(h:Stp w k F)(j:Nat):prod k (rv k F (colJ w k F j)) k (top k)=prodL (fun i=>F i (leadV w (F i))) k:=by
 rw[vol_tri (m:=k) k (Nat.le_refl _) (fun y hy i h1 h2=>?_),<-prodL_rev (fun i=>F i (leadV w (F i)))]
 ·refine prodL_congr k (fun i hi=>?_)
  show F (k-1-i) (colJ w k F j i)=F (k-1-i) (leadV w (F (k-1-i)));unfold colJ;rw[if_pos hi]
 ·unfold rv colJ
  rw[if_pos h2];exact leadV_zero (h.inc _ _ (by omega) (by omega))
theorem rv_le{k M:Nat}{F0:Nat->Vec}{w:Nat}(hM:∀i,i<k->∀j,(F0 i j).natAbs<=M)(J:Nat->Nat):∀y,y<k->∀i,(rv k F0 J y i).natAbs<=M:=fun y hy i=>hM _ (by omega) _
theorem Lat.leads{w k M:Nat}{F F0:Nat->Vec}(h:Stp w k F)(l:Lat w k F F0)(hM:∀i,i<k->∀j,(F0 i j).natAbs<=M):prodL (fun i=>F i (leadV w (F i))) k<=(fall k k*M ^ k:Nat):=by
 have h1:=l.abs k (colJ w k F 0) (top k);rw[tri_vol h]at h1;have h2:=prod_cnt (m:=k) (W:=rv k F0 (colJ w k F 0)) (M:=M) k (fun y hy i _=>rv_le (w:=w) hM _ y hy i) (top k);rw[cnt_top,<-h1]at h2;omega
theorem vn_sum{v:Vec}{f:Nat->Int}{D:Nat}:∀m,(∀i,i<m->(v i).natAbs<=D)->vn m v<=m*D
 |0,_=>by show 0<=_;omega
 |m+1,h=>by
  have:=vn_sum (v:=v) (f:=f) (D:=D) m (fun i hi=>h i (by omega));have:=h m (by omega);show vn m v+(v m).natAbs<=(m+1)*D;rw[Nat.add_mul];omega
theorem Lat.bound{w k M:Nat}{F F0:Nat->Vec}(h:Stp w k F)(l:Lat w k F F0)(hM:∀i,i<k->∀j,(F0 i j).natAbs<=M){r:Nat}(hr:r<k)(hb:∀i,i<k->(F r (leadV w (F i))).natAbs<=(F i (leadV w (F i))).natAbs)(j:Nat):(F r j).natAbs<=k*(fall k k*M ^ k):=by
 have hD:0<prodL (fun i=>F i (leadV w (F i))) k:=prodL_pos k h.pos;obtain⟨D,eD⟩:∃D:Nat,prodL (fun i=>F i (leadV w (F i))) k=D:=⟨(prodL (fun i=>F i (leadV w (F i))) k).toNat,by omega⟩;have h0:wedge (k+1) (rv k F (colJ w k F j) (k-1-r)) (prod (k+1) (rv k F (colJ w k F j)) k) (true :: top k)=0:=by
  have:=prod_has (m:=k+1) (W:=rv k F (colJ w k F j)) (k:=k-1-r) r (true :: top k);rw[show k-1-r+1+r=k by omega]at this;exact this
 have h1:rv k F (colJ w k F j) (k-1-r) k*prod (k+1) (rv k F (colJ w k F j)) k (false :: top k)-wedge k (rv k F (colJ w k F j) (k-1-r)) (fun J=>prod (k+1) (rv k F (colJ w k F j)) k (true :: J)) (top k)=0:=h0;rw[prod_false,tri_vol h,eD]at h1;have e1:rv k F (colJ w k F j) (k-1-r) k=F r j:=by unfold rv colJ;rw[if_neg (by omega),show k-1-(k-1-r)=r by omega]
 rw[e1]at h1;have h2:=wedge_le k (rv k F (colJ w k F j) (k-1-r)) (fun J=>prod (k+1) (rv k F (colJ w k F j)) k (true :: J)) (top k) (fall k k*M ^ k) (fun J hJ=>by
  rw[l.abs];have:=prod_cnt (m:=k+1) (W:=rv k F0 (colJ w k F j)) (M:=M) k (fun y hy i _=>rv_le (w:=w) hM _ y hy i) (true :: J);rw[show cnt (true :: J)=k by rw[<-cnt_top k,<-hJ];rfl]at this;exact this)
 have h3:vn k (rv k F (colJ w k F j) (k-1-r))<=k*D:=vn_sum (f:=fun _=>0) k (fun i hi=>by
  unfold rv colJ;rw[if_pos hi,show k-1-(k-1-r)=r by omega];have q1:=hb (k-1-i) (by omega);have q2:=prodL_ge k h.pos (k-1-i) (by omega);have q3:=h.pos (k-1-i) (by omega);rw[eD]at q2;omega)
 generalize wedge k (rv k F (colJ w k F j) (k-1-r)) (fun J=>prod (k+1) (rv k F (colJ w k F j)) k (true :: J)) (top k)=W at h1 h2;have h4:(F r j).natAbs*D=W.natAbs:=by rw[show W=F r j*D by omega,Int.natAbs_mul];rfl
 have h5:(F r j).natAbs*D<=k*(fall k k*M ^ k)*D:=by
  rw[h4];refine Nat.le_trans h2 (Nat.le_trans (Nat.mul_le_mul_right _ h3) ?_);rw[Nat.mul_assoc,Nat.mul_comm D,<-Nat.mul_assoc];exact Nat.le_refl _
 exact Nat.le_of_mul_le_mul_right h5 (by omega)
theorem Lat.ne{w k d:Nat}{F F0:Nat->Vec}(l:Lat w k F F0){J:Nat->Nat}{I:List Bool}(hJ:∀i,i<d->J i<w)(h:prod d (rv k F0 J) k I≠0){r:Nat}(hr:r<k):leadV w (F r)<w:=by
 rcases Nat.lt_or_ge (leadV w (F r)) w with c|c
 ·exact c
 ·exfalso
  have h1:=l.abs d J I;rw[prod_zero (W:=rv k F J) (i:=k-1-r) (by omega) (fun i hi=>by
   unfold rv;rw[show k-1-(k-1-r)=r by omega];exact leadV_zero (w:=w) (by have:=hJ i hi;omega))]at h1
  omega
end Go.Proofs.Ytdpbiegfljmhmaa.Ext
