import Derived.Test.YtogliemiljhliaaRdBq
import Derived.Test.YtogliemiljhliaaRdXc
set_option linter.unusedSimpArgs false
set_option linter.unusedVariables false
namespace Go.Proofs.Ytogliemiljhliaa
open Go.Sim Ext
set_option maxRecDepth 100000
structure Agr(m n:Nat)(S S':St):Prop where
 bound:S.bound=S'.bound
 lead:S.lead=S'.lead
 R:∀i j,i<m->j<n->S.R i j=S'.R i j
theorem pick_agr{m:Nat}{R R':Nat->Nat->Int}{c:Nat}(h:∀i,i<m->R i c=R' i c):∀k i,i+k<=m->pick R c k i=pick R' c k i
 |0,i,_=>rfl
 |k+1,i,hk=>by
  unfold pick;rw[h i (by omega),pick_agr h k (i+1) (by omega)]
theorem Agr.step{m n:Nat}{S S':St}(a:Agr m n S S'){c:Nat}(hc:c<n):Agr m n (Go.Proofs.Ytogliemiljhliaa.step m S c) (Go.Proofs.Ytogliemiljhliaa.step m S' c):=by
 obtain⟨R,b,L⟩:=S;obtain⟨R',b',L'⟩:=S';obtain⟨h1,h2,h3⟩:=a;simp only at h1 h2 h3;subst h1 h2;unfold Go.Proofs.Ytogliemiljhliaa.step;simp only;by_cases q:b.length<m
 rotate_left
 ·rw[if_neg q,if_neg q]
  exact⟨rfl,rfl,h3⟩
 rw[if_pos q,if_pos q,pick_agr (fun i hi=>h3 i c hi hc) (m-b.length) b.length (by omega)];cases hp:pick R' c (m-b.length) b.length with
 |none=>exact⟨rfl,rfl,h3⟩
 |some i=>
  obtain⟨p1,p2,_,_⟩:=pick_some hp;have sw_lt':∀y,y<m->sw b.length i y<m:=fun y hy=>by unfold sw;split<;>(try split)<;>omega
  have hs:∀y x,y<m->x<n->swp R b.length i y x=swp R' b.length i y x:=fun y x hy hx=>h3 _ _ (sw_lt' y hy) hx
  refine⟨rfl,hs _ c q hc,fun y x hy hx=>?_⟩;show clrF _ _ _ _ y x=clrF _ _ _ _ y x;unfold clrF;rw[hs _ c q hc,hs y x hy hx,hs y c hy hc,hs _ x q hx]
theorem Agr.run{m n:Nat}{S S':St}(a:Agr m n S S'):∀c,c<=n->Agr m n (Go.Proofs.Ytogliemiljhliaa.run m S c) (Go.Proofs.Ytogliemiljhliaa.run m S' c)
 |0,_=>a
 |c+1,h=>(Agr.run a c (by omega)).step (by omega)
theorem se_agr{l right:List Int}(hr:right.length=(pairsL l.length).length)(ln:Line l):Agr (pairsL l.length).length (wid l) (SE l right) (SZ l):=by
 have key:Agr (pairsL l.length).length (wid l) (S0 l right) (S0 l (zrow (pairsL l.length).length)):=⟨rfl,rfl,fun i j hi hj=>by
  show R0 l right i j=R0 l (zrow _) i j;rw[R0_row hr ln hi hj,R0_row (zrow_len _) ln hi hj]⟩
 exact key.run (wid l) (Nat.le_refl _)
theorem Agr.free{m n:Nat}{S S':St}(a:Agr m n S S'):freeL S n=freeL S' n:=by unfold freeL;rw[a.bound]
theorem Agr.bV{m n:Nat}{S S':St}(a:Agr m n S S')(few:S.bound.length<=m){c:Nat}(hc:c<n)(x:Nat):bV S c x=bV S' c x:=by
 unfold Go.Proofs.Ytogliemiljhliaa.bV;rw[a.lead,a.bound]
 congr 1
 refine sumN_congr _ (fun k hk=>?_);rw[a.R k c (by rw[<-a.bound]at hk;omega) hc]
theorem common(u:Nat->Rat):∀n,∃D:Int,D≠0/\∃v:Nat->Int,∀j,j<n->(v j:Rat)=D*u j
 |0=>⟨1,by decide,fun _=>0,fun j hj=>absurd hj (Nat.not_lt_zero j)⟩
 |n+1=>by
  obtain⟨D,D0,v,hv⟩:=common u n;have dp:((u n).den:Int)≠0:=by have:=(u n).den_pos;omega
  refine⟨D*(u n).den,Int.mul_ne_zero D0 dp,fun j=>if j=n then D*(u n).num else v j*(u n).den,fun j hj=>?_⟩;have hn:((u n).num:Rat)=u n*((u n).den:Int):=by
   have h:isF (u n).num (u n).den (u n)\/True:=.inr trivial;have e:u n=((u n).num:Rat) / (((u n).den:Int):Rat):=by
    have:=Rat.num_divInt_den (u n);rw[Rat.divInt_eq_div]at this;exact this.symm
   have z:(((u n).den:Int):Rat)≠0:=cast_ne0 dp;generalize ((u n).num:Rat)=a at *;generalize (((u n).den:Int):Rat)=d at *;rw[e];grind
  by_cases q:j=n
  ·subst q
   simp only[if_true];rw[Rat.intCast_mul,Rat.intCast_mul,hn];grind
  ·simp only[if_neg q]
   rw[Rat.intCast_mul,Rat.intCast_mul,hv j (by omega)];grind
theorem bnd_int{a:Int}{N:Nat}(h:a.natAbs<=N):bnd (a:Rat) N 1:=⟨by rw[Rat.num_intCast];exact h,by rw[Rat.den_intCast];exact Nat.le_refl 1⟩
theorem bnd.cong{p q:Rat}{N D:Nat}(h:bnd p N D)(e:p=q):bnd q N D:=e ▸ h
theorem sumQ_B{b:Nat->Nat->Int}{L D:Int}{x:Nat->Rat}{v:Nat->Int}{F:List Nat}(L0:L≠0)(hv:∀c,c∈F->(v c:Rat)=D*x c)(k:Nat):∀i,i<=F.length->(D:Rat)*(L*sumQ b L x F i k)=(sumB b v F i k:Int)
 |0,_=>by
  show(D:Rat)*(L*0)=((0:Int):Rat);rw[Rat.mul_zero,Rat.mul_zero];rfl
 |i+1,h=>by
  have ih:=sumQ_B (b:=b) L0 hv k i (by omega);rw[sumB_succ (by omega),Rat.intCast_add,<-ih,Rat.intCast_mul,hv _ (mem_bound.2 ⟨i,by omega,rfl⟩)];show(D:Rat)*(L*(sumQ b L x F i k+x (F.getD i 0)*rq (b (F.getD i 0) k) L))=_;have:=cast_ne0 L0;unfold rq;generalize (b (F.getD i 0) k:Rat)=β;generalize (L:Rat)=M at *;grind
theorem sums_fit{b:Nat->Nat->Int}{L:Int}{x:Nat->Rat}{F:List Nat}{k:Nat}(L0:L≠0)(L1:L.natAbs<=59049)(f5:F.length<=5)(hx:∀c,c∈F->bnd (x c) 1000000 1000)(hb:∀c,c∈F->(b c k).natAbs<=59049)(hw:bnd (L*sumQ b L x F F.length k) 1100000000000 1000):∀i,i<=F.length->fits (sumQ b L x F i k):=by
 have lz:=cast_ne0 L0;have term:∀i,i<F.length->bnd (x (F.getD i 0)*(b (F.getD i 0) k:Rat)) 59049000000 1000:=fun i hi=>by
  have m:F.getD i 0∈F:=mem_bound.2 ⟨i,hi,rfl⟩;exact((hx _ m).mul (bnd_int (hb _ m))).mono (by decide) (by decide)
 have step:∀i,L*sumQ b L x F (i+1) k=L*sumQ b L x F i k+x (F.getD i 0)*(b (F.getD i 0) k:Rat):=fun i=>by
  show(L:Rat)*(sumQ b L x F i k+x (F.getD i 0)*rq (b (F.getD i 0) k) L)=_;unfold rq;generalize (b (F.getD i 0) k:Rat)=β;generalize (L:Rat)=M at *;grind
 have z0:bnd (L*sumQ b L x F 0 k) 0 1:=by
  have:(L:Rat)*sumQ b L x F 0 k=((0:Int):Rat):=by show(L:Rat)*0=_;rw[Rat.mul_zero];rfl
  rw[this];exact bnd_int (by decide)
 have fin:∀{i N D:Nat},bnd (L*sumQ b L x F i k) N D->N<=1000000000000000000->D*59049<=1000000000000000000->fits (sumQ b L x F i k):=fun {i N D} h h1 h2=>by
  have e:sumQ b L x F i k=(L*sumQ b L x F i k) / (L:Rat):=by
   generalize (L:Rat)=M at *;grind
  rw[e];exact(h.div (bnd_int L1) (by decide)).fits (by omega) h2
 intro i hi;by_cases c0:i=0
 ·subst c0;exact fin z0 (by decide) (by decide)
 by_cases cw:i=F.length
 ·rw[cw];exact fin hw (by decide) (by decide)
 by_cases cl:i+1=F.length
 ·have h:=step i
  rw[cl]at h;have:L*sumQ b L x F i k=L*sumQ b L x F F.length k-x (F.getD i 0)*(b (F.getD i 0) k:Rat):=by rw[h];grind
  exact fin ((hw.sub (term i (by omega))).cong this.symm) (by decide) (by decide)
 have z1:bnd (L*sumQ b L x F 1 k) 59049000000 1000:=((z0.add (term 0 (by omega))).cong (step 0).symm).mono (by decide) (by decide);by_cases c1:i=1
 ·subst c1;exact fin z1 (by decide) (by decide)
 have z2:bnd (L*sumQ b L x F 2 k) 118098000000000 1000000:=((z1.add (term 1 (by omega))).cong (step 1).symm).mono (by decide) (by decide);by_cases c2:i=2
 ·subst c2;exact fin z2 (by decide) (by decide)
 have z3:bnd (L*sumQ b L x F 3 k) 177147000000000000 1000000000:=((z2.add (term 2 (by omega))).cong (step 2).symm).mono (by decide) (by decide);obtain rfl:i=3:=by omega
 exact fin z3 (by decide) (by decide)
end Go.Proofs.Ytogliemiljhliaa
namespace Go.Proofs.Ytogliemiljhliaa
open Go.Sim Ext
set_option maxRecDepth 100000
def uQ(l:List Int)(g s:List Fc)(j:Nat):Rat:=if j<l.length then vq (gt g (j:Int))else vq (gt s ((j:Int)-l.length))
def offQ(l right:List Int)(g s:List Fc)(j:Nat):Rat:=uQ l g s j-rq (xV (SE l right) (wid l) j) (SE l right).lead
theorem sumQ_congr{b b':Nat->Nat->Int}{L:Int}{x:Nat->Rat}{F:List Nat}(h:∀c,c∈F->∀y,b c y=b' c y)(k:Nat):∀i,i<=F.length->sumQ b L x F i k=sumQ b' L x F i k
 |0,_=>rfl
 |i+1,hi=>by
  show sumQ b L x F i k+x (F.getD i 0)*rq (b (F.getD i 0) k) L=sumQ b' L x F i k+x (F.getD i 0)*rq (b' (F.getD i 0) k) L;rw[sumQ_congr h k i (by omega),h _ (mem_bound.2 ⟨i,by omega,rfl⟩)]
theorem BasQ.congr{n:Nat}{L:Int}{B:List Nat}{b b':Nat->Nat->Int}{x:Nat->Rat}(g:BasQ n L B b x)(h:∀c,c∈B->∀y,b c y=b' c y):BasQ n L B b' x:=
 ⟨g.lead,g.leadB,g.few,g.lt,fun c hc=>by rw[<-h c hc];exact g.own c hc,fun c hc y hy=>by rw[<-h c hc];exact g.late c hc y hy,fun c hc y hy=>by rw[<-h c hc];exact g.small c hc y hy,g.xs,fun c hc y hy=>by rw[<-h c hc];exact g.prods c hc y hy,fun i hi y hy=>by rw[<-sumQ_congr h y i hi];exact g.sums i hi y hy,fun k hk=>by rw[<-sumQ_congr h k _ (Nat.le_refl _)];exact g.sum k hk⟩
theorem uQ_bnd{l:List Int}{g s:List Fc}(ok:predOk l g s){j:Nat}(hj:j<wid l):bnd (uQ l g s j) 1000000 1000:=by
 have wdef:wid l=l.length+(clsL l).length:=rfl;obtain⟨o1,o2,o3,o4⟩:=ok;unfold uQ;by_cases q:j<l.length
 ·rw[if_pos q];exact(o3 (j:Int) (by omega) (by omega)).bnd
 ·rw[if_neg q];exact(o4 ((j:Int)-l.length) (by omega) (by omega)).bnd
theorem back_ok{l right:List Int}{g s:List Fc}(ln:Line l)(hr:right.length=(pairsL l.length).length)(hb:∀i:Int,0<=i->i<right.length->(gt right i).natAbs<=99)(ok:predOk l g s)(eqn:∀r:Nat,r<(pairsL l.length).length->predQ l g s (gt (pairsL l.length) (r:Int))=((gt right (r:Int):Int):Rat)) :
  solvable l right/\(∀j,j<wid l->fits (offQ l right g s j))/\BasQ (wid l) (SZ l).lead (freeL (SZ l) (wid l)) (bV (SZ l)) (offQ l right g s):=by
 have wdef:wid l=l.length+(clsL l).length:=rfl;obtain⟨D,D0,v,hv⟩:=common (uQ l g s) (wid l);obtain⟨ech,fi,nul⟩:=line_end hr ln hb;obtain⟨lb,bb,out⟩:=line_bnd hr ln;have agr:=se_agr hr ln;have heq:∀p,p∈pairsL l.length->∀r,r<(pairsL l.length).length->gt (pairsL l.length) (r:Int)=p->sumN (fun j=>gt (rowF l p) (j:Int)*v j) (wid l)=D*gt right (r:Int):=fun p hp r hr' e=>by
  obtain⟨h0,h1,h2⟩:=mem_pairs.1 hp;obtain⟨i0,i1,i2⟩:=ixI_mem (diff_mem ln hp);rw[row_sum ln hp];refine Rat.intCast_inj.1 ?_;have q:=eqn r hr';rw[e]at q;rw[Rat.intCast_mul,<-q,Rat.intCast_add,Rat.intCast_sub,hv _ (by omega),hv _ (by omega),hv _ (by omega)];unfold uQ predQ;rw[if_pos (by omega),if_pos (by omega),if_neg (by omega),show((p.i.toNat:Nat):Int)=p.i by omega,show((p.j.toNat:Nat):Int)=p.j by omega,show(((l.length+ixI (clsL l) (diffOf l p)).toNat:Nat):Int)-l.length=ixI (clsL l) (diffOf l p) by omega];grind
 obtain⟨low,span⟩:=off_span ech D0 (out v D heq);have hu:∀j,j<wid l->bnd (uQ l g s j) 1000000 1000:=fun j hj=>uQ_bnd ok hj
 have few:(freeL (SE l right) (wid l)).length<=5:=Nat.le_trans (free_few ln ech nul) ln.n5;have hx:∀j,(xV (SE l right) (wid l) j).natAbs<=1000000000:=fun j=>xV_small ech fi j
 have offD:∀j,offQ l right g s j=uQ l g s j-rq (xV (SE l right) (wid l) j) (SE l right).lead:=fun _=>rfl
 have hbv:∀c,c∈freeL (SE l right) (wid l)->∀y,bV (SE l right) c y=bV (SZ l) c y:=fun c hc y=>agr.bV ech.few (mem_free.1 hc).1 y
 have fr1:=agr.free;have ld:=agr.lead;refine⟨low,?_⟩;rw[<-fr1,<-ld];have offF:∀c,c∈freeL (SE l right) (wid l)->offQ l right g s c=uQ l g s c:=fun c hc=>by
  rw[offD,xV_free (mem_free.1 hc).2];unfold rq;rw[Rat.intCast_zero,Rat.div_def,Rat.zero_mul];grind
 have xs:∀j,j<wid l->fits (offQ l right g s j):=fun j hj=>by
  have h1:=(hu j hj).sub ((bnd_int (hx j)).div (bnd_int lb) (by decide));exact h1.fits (by decide) (by decide)
 have lz:=cast_ne0 ech.lead;have dz:=cast_ne0 D0;have whole:∀k,k<wid l->(SE l right).lead*sumQ (bV (SE l right)) (SE l right).lead (offQ l right g s) (freeL (SE l right) (wid l)) (freeL (SE l right) (wid l)).length k=(SE l right).lead*uQ l g s k-(xV (SE l right) (wid l) k:Rat):=fun k hk=>by
  have h1:=sumQ_B (b:=bV (SE l right)) (D:=D) (v:=v) (x:=offQ l right g s) ech.lead (fun c hc=>by rw[offF c hc];exact hv c (mem_free.1 hc).1) k _ (Nat.le_refl _);have h2:sumB (bV (SE l right)) v (freeL (SE l right) (wid l)) (freeL (SE l right) (wid l)).length k=(SE l right).lead*v k-D*xV (SE l right) (wid l) k:=by
   unfold sumB;rw[List.take_length];exact span k hk
  rw[h2,Rat.intCast_sub,Rat.intCast_mul,Rat.intCast_mul,hv k hk]at h1;generalize ((SE l right).lead:Rat)*sumQ (bV (SE l right)) (SE l right).lead (offQ l right g s) (freeL (SE l right) (wid l)) (freeL (SE l right) (wid l)).length k=P at *;generalize ((SE l right).lead:Rat)=M at *;generalize (xV (SE l right) (wid l) k:Rat)=X at *;generalize uQ l g s k=U at *;generalize (D:Rat)=d at *;grind
 refine⟨xs,BasQ.congr ⟨ech.lead,fi.leadB,by omega,fun c hc=>(mem_free.1 hc).1,fun c hc=>bV_self ech (mem_free.1 hc).2,fun c hc y hy=>bV_late ech (mem_free.1 hc).2 hy,fun c hc y hy=>bV_small ech fi (mem_free.1 hc).1 (mem_free.1 hc).2 y,xs,fun c hc y hy=>?_,fun i hi y hy=>?_,fun k hk=>?_⟩ hbv⟩
 ·rw[offF c hc]
  exact(((hu c (mem_free.1 hc).1).mul ((bnd_int (bb c y (mem_free.1 hc).1 (mem_free.1 hc).2)).div (bnd_int lb) (by decide)))).fits (by decide) (by decide)
 ·refine sums_fit ech.lead lb few (fun c hc=>by rw[offF c hc];exact hu c (mem_free.1 hc).1) (fun c hc=>bb c y (mem_free.1 hc).1 (mem_free.1 hc).2) ?_ i hi
  rw[whole y hy];exact(((bnd_int lb).mul (hu y hy)).sub (bnd_int (hx y))).mono (by decide) (by decide)
 ·have h:=whole k hk
  rw[offD];unfold rq;generalize sumQ (bV (SE l right)) (SE l right).lead (offQ l right g s) (freeL (SE l right) (wid l)) (freeL (SE l right) (wid l)).length k=P at *;generalize ((SE l right).lead:Rat)=M at *;generalize (xV (SE l right) (wid l) k:Rat)=X at *;generalize uQ l g s k=U at *;grind
end Go.Proofs.Ytogliemiljhliaa
namespace Go.Proofs.Ytogliemiljhliaa
open Go.Sim Ext
set_option maxRecDepth 100000
theorem Good.back{m n:Nat}{A:Nat->Ext.Vec}{K:Nat}{S:St}{W:Nat->Ext.Vec}{s:Int}(g:Good m n A K S W s){v:Nat->Int}{c:Int}(h:∀i,i<m->sumN (fun j=>S.R i j*v j) n=c*S.R i n):∀r,r<m->sumN (fun j=>A j r*v j) n=c*A n r:=fun r hr=>by
 refine cancel g.lead ?_;rw[<-sumN_mul,sumN_congr (g:=fun j=>sumN (fun i=>W i r*(S.R i j*v j)) m) n (fun j hj=>by
  rw[<-Int.mul_assoc,g.col j r (by omega) hr,Int.mul_comm,<-sumN_mul];exact sumN_congr m (fun i hi=>by grind)),sumN_comm (fun i j=>W i r*(S.R i j*v j)) n m,
  sumN_congr (g:=fun i=>c*(S.R i n*W i r)) m (fun i hi=>by rw[sumN_mul,h i hi];grind),sumN_mul,<-g.col n r (Nat.le_refl n) hr]
 grind
theorem sol_R{m n:Nat}{S:St}(e:Ech m S n)(low:∀i,S.bound.length<=i->i<m->S.R i n=0):∀i,i<m->sumN (fun j=>S.R i j*xV S n j) n=S.lead*S.R i n:=fun i hi=>by
 unfold xV;rw[sumN_congr (g:=fun j=>sumN (fun k=>S.R i j*(if j=S.bound.getD k 0 then S.R k n else 0)) S.bound.length) n (fun j hj=>by rw[sumN_mul]),sumN_comm (fun k j=>S.R i j*(if j=S.bound.getD k 0 then S.R k n else 0)) n S.bound.length,
  sumN_congr (g:=fun k=>if k=i then S.lead*S.R i n else 0) S.bound.length (fun k hk=>by
   rw[sumN_pick (S.R i) (e.old k hk),e.unit k hk i hi];by_cases q:i=k
   ·rw[if_pos q,if_pos q.symm,q]
   ·rw[if_neg q,if_neg (fun w=>q w.symm),Int.zero_mul])]
 by_cases q:i<S.bound.length
 ·rw[sumN_one (i:=i) _ q (fun k hk hne=>if_neg hne),if_pos rfl]
 ·rw[sumN_zero _ (fun k hk=>if_neg (by omega)),low i (by omega) hi,Int.mul_zero]
theorem sol_eq{l right:List Int}(hr:right.length=(pairsL l.length).length)(ln:Line l)(sv:solvable l right){r:Nat}(hr':r<(pairsL l.length).length){p:P2}(hp:gt (pairsL l.length) (r:Int)=p):xV (SE l right) (wid l) p.i.toNat-xV (SE l right) (wid l) p.j.toNat+xV (SE l right) (wid l) (l.length+ixI (clsL l) (diffOf l p)).toNat=(SE l right).lead*gt right (r:Int):=by
 have hA:∀j,j<wid l->vn (pairsL l.length).length (colV l right j)<=4:=fun j hj=>col_few hr ln hj
 have g0:Good (pairsL l.length).length (wid l) (colV l right) 4 (S0 l right) E 1:=Good.start (by omega);obtain⟨W,s,g⟩:=g0.run hA (wid l) (Nat.le_refl _);have ech:Ech (pairsL l.length).length (SE l right) (wid l):=Ech.run rfl (show(1:Int)≠0 by decide) (wid l);change Good _ _ _ _ (SE l right) W s at g;have pm:p∈pairsL l.length:=by rw[<-hp];exact gt_mem _ (by omega) (by omega)
 rw[<-row_sum ln pm];have:=g.back (sol_R ech sv) r hr';rw[show colV l right (wid l) r=gt right (r:Int)from R0_right hr hr']at this;rw[<-this];exact sumN_congr _ (fun j hj=>by show _=R0 l right r j*_;rw[R0_row hr ln hr' hj,hp])
