import Derived.Test.YtogliemiljhliaaRdV
set_option linter.unusedSimpArgs false
set_option linter.unusedVariables false
namespace Go.Proofs.Ytogliemiljhliaa
open Go.Sim Ext
set_option maxRecDepth 100000
structure Ech(m:Nat)(S:St)(c:Nat):Prop where
 few:S.bound.length<=m
 lead:S.lead≠0
 unit:∀k,k<S.bound.length->∀i,i<m->S.R i (S.bound.getD k 0)=if i=k then S.lead else 0
 low:∀x,x<c->∀i,S.bound.length<=i->i<m->S.R i x=0
 ech:∀k,k<S.bound.length->∀x,x<S.bound.getD k 0->S.R k x=0
 old:∀k,k<S.bound.length->S.bound.getD k 0<c
theorem getD_app{l:List Nat}{c k:Nat}(h:k<l.length):(l++[c]).getD k 0=l.getD k 0:=by
 rw[List.getD_eq_getElem?_getD,List.getElem?_append_left h,List.getD_eq_getElem?_getD]
theorem getD_last{l:List Nat}{c:Nat}:(l++[c]).getD l.length 0=c:=by
 rw[List.getD_eq_getElem?_getD,List.getElem?_append_right (Nat.le_refl _),Nat.sub_self];rfl
theorem sw_lt{a b i:Nat}(h1:i<a)(h2:i<b):sw a b i=i:=by unfold sw;rw[if_neg (by omega),if_neg (by omega)]
theorem sw_ge{a b i m:Nat}(hab:a<=b)(hb:b<m)(h:a<=i)(hi:i<m):a<=sw a b i/\sw a b i<m:=by
 unfold sw;by_cases h1:i=a
 ·rw[if_pos h1];omega
 ·rw[if_neg h1]
  by_cases h2:i=b
  ·rw[if_pos h2];omega
  ·rw[if_neg h2];omega
theorem tdiv_same{a b:Int}(h:b≠0):(a*b).tdiv b=a:=Int.mul_tdiv_cancel _ h
theorem Ech.step{m:Nat}{S:St}{c:Nat}(e:Ech m S c):Ech m (step m S c) (c+1):=by
 unfold Go.Proofs.Ytogliemiljhliaa.step;by_cases hb:S.bound.length<m
 rotate_left
 ·rw[if_neg hb]
  exact⟨e.few,e.lead,e.unit,fun x hx i h1 h2=>by omega,e.ech,fun k hk=>Nat.lt_succ_of_lt (e.old k hk)⟩
 rw[if_pos hb];cases hp:pick S.R c (m-S.bound.length) S.bound.length with
 |none=>
  refine⟨e.few,e.lead,e.unit,fun x hx i h1 h2=>?_,e.ech,fun k hk=>Nat.lt_succ_of_lt (e.old k hk)⟩;by_cases q:x=c
  ·rw[q];exact pick_none hp i h1 (by omega)
  ·exact e.low x (by omega) i h1 h2
 |some i=>
  obtain⟨p1,p2,p3,_⟩:=pick_some hp;simp only;generalize hn:S.bound.length=n at *;have hR0:∀x,swp S.R n i n x=S.R i x:=fun x=>by unfold swp sw;rw[if_pos rfl]
  have hp0:swp S.R n i n c≠0:=by rw[hR0];exact p3
  have hRk:∀k x,k<n->swp S.R n i k x=S.R k x:=fun k x hk=>by unfold swp;rw[sw_lt hk (by omega)]
  have lowS:∀x,x<c->∀k,n<=k->k<m->swp S.R n i k x=0:=fun x hx k h1 h2=>by
   obtain⟨q1,q2⟩:=sw_ge (a:=n) (b:=i) (m:=m) p1 (by omega) h1 h2;exact e.low x hx _ (by omega) q2
  have cl:∀k x,k≠n->swp S.R n i n x=0->clrF (swp S.R n i) n c S.lead k x=(swp S.R n i n c*swp S.R n i k x).tdiv S.lead:=fun k x hk hz=>by
   unfold clrF;rw[if_neg hk,hz,Int.mul_zero,Int.sub_zero]
  have cl0:∀k x,swp S.R n i n x=0->swp S.R n i k x=0->clrF (swp S.R n i) n c S.lead k x=0:=fun k x h1 h2=>by
   by_cases q:k=n
   ·unfold clrF;rw[if_pos q];exact h2
   ·rw[cl k x q h1,h2,Int.mul_zero,Int.zero_tdiv]
  have clc:∀k,k≠n->clrF (swp S.R n i) n c S.lead k c=0:=fun k hk=>by
   unfold clrF;rw[if_neg hk,Int.mul_comm (swp S.R n i k c),Int.sub_self,Int.zero_tdiv]
  have cln:∀x,clrF (swp S.R n i) n c S.lead n x=swp S.R n i n x:=fun x=>by unfold clrF;rw[if_pos rfl]
  refine⟨by show(S.bound++[c]).length<=m;rw[List.length_append,hn];simp only[List.length_singleton];omega,hp0,fun k hk r hr=>?_,fun x hx r h1 h2=>?_,fun k hk x hx=>?_,fun k hk=>?_⟩
  ·simp only[List.length_append,List.length_singleton,hn]at hk
   show clrF (swp S.R n i) n c S.lead r ((S.bound++[c]).getD k 0)=if r=k then swp S.R n i n c else 0
   by_cases q:k=n
   ·subst q
    rw[<-hn,getD_last,hn];by_cases w:r=k
    ·rw[if_pos w,w,cln]
    ·rw[if_neg w,clc r w]
   ·rw[getD_app (by omega)]
    have hz:swp S.R n i n (S.bound.getD k 0)=0:=by
     rw[hR0,e.unit k (by omega) i (by omega),if_neg (by omega)]
    by_cases w:r=k
    ·subst w
     rw[if_pos rfl,cl r _ q hz,hRk r _ (by omega),e.unit r (by omega) r hr,if_pos rfl,tdiv_same e.lead]
    ·rw[if_neg w]
     refine cl0 r _ hz ?_;by_cases u:r<n
     ·rw[hRk r _ u,e.unit k (by omega) r hr,if_neg w]
     ·obtain⟨q1,q2⟩:=sw_ge (a:=n) (b:=i) (m:=m) p1 (by omega) (by omega:n<=r) hr
      show S.R (sw n i r) (S.bound.getD k 0)=0;rw[e.unit k (by omega) _ q2,if_neg (by omega)]
  ·simp only[List.length_append,List.length_singleton,hn]at h1
   show clrF (swp S.R n i) n c S.lead r x=0;by_cases q:x=c
   ·rw[q];exact clc r (by omega)
   ·exact cl0 r x (lowS x (by omega) n (Nat.le_refl _) hb) (lowS x (by omega) r (by omega) h2)
  ·simp only[List.length_append,List.length_singleton,hn]at hk
   show clrF (swp S.R n i) n c S.lead k x=0;have hx:x<(S.bound++[c]).getD k 0:=hx;by_cases q:k=n
   ·subst q
    rw[<-hn,getD_last]at hx;rw[cln];exact lowS x hx k (Nat.le_refl _) hb
   ·rw[getD_app (by omega)]at hx
    have:=e.old k (by omega);exact cl0 k x (lowS x (by omega) n (Nat.le_refl _) hb) (by rw[hRk k x (by omega)];exact e.ech k (by omega) x hx)
  ·simp only[List.length_append,List.length_singleton,hn]at hk
   show(S.bound++[c]).getD k 0<c+1;by_cases q:k=n
   ·rw[q,<-hn,getD_last];omega
   ·rw[getD_app (by omega)];have:=e.old k (by omega);omega
theorem Ech.run{m:Nat}{S:St}(h0:S.bound=[])(hl:S.lead≠0):∀c,Ech m (run m S c) c
 |0=>⟨by show S.bound.length<=m;rw[h0];exact Nat.zero_le _,hl,fun k hk=>absurd (show k<S.bound.length from hk) (by rw[h0];exact Nat.not_lt_zero k),fun x hx=>absurd hx (Nat.not_lt_zero x),fun k hk=>absurd (show k<S.bound.length from hk) (by rw[h0];exact Nat.not_lt_zero k),fun k hk=>absurd (show k<S.bound.length from hk) (by rw[h0];exact Nat.not_lt_zero k)⟩
 |c+1=>(Ech.run h0 hl c).step
theorem Ech.inj{m:Nat}{S:St}{c:Nat}(e:Ech m S c){j k:Nat}(hj:j<S.bound.length)(hk:k<S.bound.length)(h:S.bound.getD j 0=S.bound.getD k 0):j=k:=by
 have h1:=e.unit j hj j (by have:=e.few;omega);have h2:=e.unit k hk j (by have:=e.few;omega);rw[if_pos rfl,h]at h1;rw[h1]at h2;by_cases q:j=k
 ·exact q
 ·rw[if_neg q]at h2;exact absurd h2 e.lead
theorem mem_bound{l:List Nat}{x:Nat}:x∈l↔∃k,k<l.length/\l.getD k 0=x:=by
 constructor
 ·intro h
  obtain⟨k,hk,e⟩:=List.getElem_of_mem h;exact⟨k,hk,by rw[List.getD_eq_getElem?_getD,List.getElem?_eq_getElem hk,<-e];rfl⟩
 ·rintro⟨k,hk,rfl⟩
  rw[List.getD_eq_getElem?_getD,List.getElem?_eq_getElem hk];exact List.getElem_mem hk
theorem sumN_zero{f:Nat->Int}(n:Nat)(h:∀k,k<n->f k=0):sumN f n=0:=by
 rw[sumN_congr (g:=fun k=>0*0) n (fun k hk=>by rw[h k hk];rfl),sumN_mul];omega
theorem sumN_comm(f:Nat->Nat->Int):∀(n m:Nat),sumN (fun j=>sumN (fun i=>f i j) m) n=sumN (fun i=>sumN (fun j=>f i j) n) m
 |0,m=>(sumN_zero (f:=fun i=>sumN (fun j=>f i j) 0) m (fun _ _=>rfl)).symm
 |n+1,m=>by
  show sumN (fun j=>sumN (fun i=>f i j) m) n+sumN (fun i=>f i n) m=sumN (fun i=>sumN (fun j=>f i j) n+f i n) m;rw[sumN_comm f n m,sumN_add (fun i=>sumN (fun j=>f i j) n) (fun i=>f i n)]
def Nul(n m:Nat)(B:Nat->Nat->Int)(v:Nat->Int):Prop:=∀r,r<m->sumN (fun j=>B r j*v j) n=0
theorem vol_zero{m:Nat}{W:Nat->Ext.Vec}{i:Nat}(hi:i<m){a:Ext.Vec}(h:∀r,r<m->a r=0):vol m (put W i a)=0:=by
 have e:vol m (put W i a)=vol m (put W i (fun r=>0*a r)):=vol_congr (fun j hj r hr=>by
  unfold put;split
  ·simp only[h r hr];omega
  ·rfl)
 rw[e,vol_mul hi,Int.zero_mul]
theorem Good.nul{m n:Nat}{A:Nat->Ext.Vec}{K:Nat}{S:St}{W:Nat->Ext.Vec}{s:Int}(g:Good m n A K S W s){v:Nat->Int}:Nul n m (fun r j=>A j r) v↔Nul n m S.R v:=by
 constructor
 ·intro h i hi
  have hs:s≠0:=by rcases g.sgn with h|h<;>rw[h]<;>decide
  refine cancel hs ?_;rw[Int.mul_zero,<-sumN_mul,sumN_congr (g:=fun j=>v j*Ext.vol m (put W i (A j))) n (fun j hj=>by rw[g.val hi (by omega)];grind),<-vol_sum hi v A n];exact vol_zero hi (fun r hr=>by rw[<-h r hr];exact sumN_congr n (fun j hj=>Int.mul_comm _ _))
 ·intro h r hr
  refine cancel g.lead ?_;rw[Int.mul_zero,<-sumN_mul,sumN_congr (g:=fun j=>sumN (fun i=>W i r*(S.R i j*v j)) m) n (fun j hj=>by
   rw[<-Int.mul_assoc,g.col j r (by omega) hr,Int.mul_comm,<-sumN_mul];exact sumN_congr m (fun i hi=>by grind)),sumN_comm (fun i j=>W i r*(S.R i j*v j)) n m]
  exact sumN_zero m (fun i hi=>by rw[sumN_mul,h i hi,Int.mul_zero])
def bV(S:St)(c x:Nat):Int:=(if x=c then S.lead else 0)+sumN (fun k=>if x=S.bound.getD k 0 then -S.R k c else 0) S.bound.length
theorem sumN_pick{n:Nat}(f:Nat->Int){c:Nat}(hc:c<n)(a:Int):sumN (fun x=>f x*(if x=c then a else 0)) n=f c*a:=by
 rw[sumN_one (i:=c) n hc (fun k hk hne=>by rw[if_neg hne,Int.mul_zero]),if_pos rfl]
theorem bV_nul{m n:Nat}{S:St}(e:Ech m S n){c:Nat}(hc:c<n)(hf:c∉S.bound):Nul n m S.R (bV S c):=by
 intro i hi;unfold bV;rw[sumN_congr (g:=fun x=>S.R i x*(if x=c then S.lead else 0)+sumN (fun k=>S.R i x*(if x=S.bound.getD k 0 then -S.R k c else 0)) S.bound.length) n (fun x hx=>by rw[Int.mul_add,sumN_mul]),
  sumN_add (fun x=>S.R i x*(if x=c then S.lead else 0)) (fun x=>sumN (fun k=>S.R i x*(if x=S.bound.getD k 0 then -S.R k c else 0)) S.bound.length),sumN_pick (S.R i) hc,
  sumN_comm (fun k x=>S.R i x*(if x=S.bound.getD k 0 then -S.R k c else 0)) n S.bound.length,
  sumN_congr (g:=fun k=>if k=i then -(S.R i c*S.lead)else 0) S.bound.length (fun k hk=>by
   rw[sumN_pick (S.R i) (e.old k hk),e.unit k hk i hi];by_cases q:i=k
   ·rw[if_pos q,if_pos q.symm,q];grind
   ·rw[if_neg q,if_neg (fun w=>q w.symm)];omega)]
 by_cases q:i<S.bound.length
 ·rw[sumN_one (i:=i) _ q (fun k hk hne=>if_neg hne),if_pos rfl];omega
 ·rw[sumN_zero _ (fun k hk=>if_neg (by omega)),e.low c hc i (by omega) hi];omega
theorem bV_self{m n:Nat}{S:St}(e:Ech m S n){c:Nat}(hf:c∉S.bound):bV S c c=S.lead:=by
 unfold bV;rw[if_pos rfl,sumN_zero _ (fun k hk=>if_neg (fun q=>hf (mem_bound.2 ⟨k,hk,q.symm⟩)))];omega
theorem bV_free{S:St}{c x:Nat}(hx:x∉S.bound)(hne:x≠c):bV S c x=0:=by
 unfold bV;rw[if_neg hne,sumN_zero _ (fun k hk=>if_neg (fun q=>hx (mem_bound.2 ⟨k,hk,q.symm⟩)))];omega
theorem bV_bound{m n:Nat}{S:St}(e:Ech m S n){c k:Nat}(hf:c∉S.bound)(hk:k<S.bound.length):bV S c (S.bound.getD k 0)=-S.R k c:=by
 unfold bV;rw[if_neg (fun q=>hf (mem_bound.2 ⟨k,hk,q⟩)),sumN_one (i:=k) _ hk (fun j hj hne=>if_neg (fun q=>hne (e.inj hj hk q.symm))),if_pos rfl];omega
theorem bV_late{m n:Nat}{S:St}(e:Ech m S n){c x:Nat}(hf:c∉S.bound)(hx:c<x):bV S c x=0:=by
 by_cases q:x∈S.bound
 ·obtain⟨k,hk,rfl⟩:=mem_bound.1 q
  rw[bV_bound e hf hk,e.ech k hk c hx];rfl
 ·exact bV_free q (by omega)
theorem bV_small{m n:Nat}{S:St}(e:Ech m S n)(fi:Fine m n S){c:Nat}(hc:c<n)(hf:c∉S.bound)(x:Nat):(bV S c x).natAbs<=1000000000:=by
 by_cases q:x∈S.bound
 ·obtain⟨k,hk,rfl⟩:=mem_bound.1 q
  rw[bV_bound e hf hk];have:=fi.small k c (by have:=e.few;omega) (by omega);omega
 ·by_cases w:x=c
  ·rw[w,bV_self e hf];exact fi.leadB
  ·rw[bV_free q w];decide
theorem fr_self{a:Int}(h:a≠0):fr a a=⟨1,1⟩:=by
 have:=rq_cancel h (show(1:Int)≠0 by decide) (a:=1);rw[Int.mul_one]at this;have e:fr a a=fr 1 1:=by unfold fr;rw[this]
 rw[e,fr_int]
theorem fill_bV{m n:Nat}{S:St}(e:Ech m S n){c:Nat}{x:Nat}:∀K,K<=S.bound.length->fillR S.R S.bound S.lead c (-1) K x=fr (sumN (fun k=>if x=S.bound.getD k 0 then -S.R k c else 0) K) S.lead
 |0,_=>by show(⟨0,1⟩:Fc)=fr 0 S.lead;rw[fr_zero]
 |K+1,h=>by
  show(if x=S.bound.getD K 0 then fr (-1*S.R K c) S.lead else fillR S.R S.bound S.lead c (-1) K x)=fr (sumN (fun k=>if x=S.bound.getD k 0 then -S.R k c else 0) K+(if x=S.bound.getD K 0 then -S.R K c else 0)) S.lead;by_cases q:x=S.bound.getD K 0
  ·rw[if_pos q,if_pos q,sumN_zero _ (fun k hk=>if_neg (fun w=>by have:=e.inj (by omega) (by omega) (w.symm.trans q);omega))]
   congr 1;omega
  ·rw[if_neg q,if_neg q,fill_bV e K (by omega),Int.add_zero]
theorem bvec_bV{m n:Nat}{S:St}(e:Ech m S n){c:Nat}(hf:c∉S.bound):bvec S n c=lst (fun x=>fr (bV S c x) S.lead) n:=by
 unfold bvec;refine lst_congr (fun x hx=>?_);by_cases q:x=c
 ·rw[if_pos q,q,bV_self e hf,fr_self e.lead]
 ·rw[if_neg q,fill_bV e _ (Nat.le_refl _)]
  unfold bV;rw[if_neg q,Int.zero_add]
def freeL(S:St)(n:Nat):List Nat:=(List.range n).filter (fun c=>decide (c∉S.bound))
theorem bas_free(S:St)(n:Nat):∀c,basTo S n c=(freeL S c).map (bvec S n)
 |0=>rfl
 |c+1=>by
  unfold basTo freeL;rw[List.range_succ,List.filter_append,List.map_append,bas_free S n c];by_cases q:c∈S.bound
  ·rw[if_pos q];simp[q,freeL]
  ·rw[if_neg q];simp[q,freeL]
def lsum(f:Nat->Int)(L:List Nat):Int:=(L.map f).sum
theorem lsum_free(S:St)(f:Nat->Int):∀n,lsum f (freeL S n)=sumN (fun c=>if c∈S.bound then 0 else f c) n
 |0=>rfl
 |n+1=>by
  show lsum f (freeL S (n+1))=sumN (fun c=>if c∈S.bound then 0 else f c) n+(if n∈S.bound then 0 else f n);rw[<-lsum_free S f n];unfold lsum freeL;rw[List.range_succ,List.filter_append,List.map_append,List.sum_append];by_cases q:n∈S.bound
  ·rw[if_pos q];simp[q]
  ·rw[if_neg q];simp[q]
theorem mem_free{S:St}{n c:Nat}:c∈freeL S n↔c<n/\c∉S.bound:=by
 unfold freeL;rw[List.mem_filter,List.mem_range,decide_eq_true_iff]
theorem span_free{m n:Nat}{S:St}(e:Ech m S n){x:Nat->Int}(hx:Nul n m S.R x){k:Nat}(hk:k<n):lsum (fun c=>x c*bV S c k) (freeL S n)=S.lead*x k:=by
 rw[lsum_free];by_cases q:k∈S.bound
 ·obtain⟨b,hb,eb⟩:=mem_bound.1 q
  have h:=hx b (by have:=e.few;omega);have h2:sumN (fun j=>S.R b j*x j) n=sumN (fun c=>(if c∈S.bound then 0 else S.R b c*x c)+(if c=k then S.lead*x k else 0)) n:=sumN_congr n (fun c hc=>by
   by_cases w:c∈S.bound
   ·rw[if_pos w]
    obtain⟨b',hb',eb'⟩:=mem_bound.1 w;have u:=e.unit b' hb' b (by have:=e.few;omega);rw[eb']at u;rw[u];by_cases z:b=b'
    ·subst z
     rw[if_pos rfl,if_pos (eb'.symm.trans eb),<-eb,eb'];omega
    ·rw[if_neg z,if_neg (fun y=>z (e.inj hb hb' (by rw[eb,eb',y])))];omega
   ·rw[if_neg w,if_neg (fun(y:c=k)=>w (by rw[y];exact q))];omega)
  rw[h2,sumN_add (fun c=>if c∈S.bound then 0 else S.R b c*x c) (fun c=>if c=k then S.lead*x k else 0),sumN_one (f:=fun c=>if c=k then S.lead*x k else 0) (i:=k) n hk (fun j hj hne=>if_neg hne),if_pos rfl]at h;have h3:sumN (fun c=>if c∈S.bound then 0 else x c*bV S c k) n=-1*sumN (fun c=>if c∈S.bound then 0 else S.R b c*x c) n:=by
   rw[<-sumN_mul];refine sumN_congr n (fun c hc=>?_);by_cases w:c∈S.bound
   ·rw[if_pos w,if_pos w];omega
   ·rw[if_neg w,if_neg w,<-eb,bV_bound e w hb];grind
  rw[h3];omega
 ·rw[sumN_one (i:=k) n hk (fun c hc hne=>?_),if_neg q,bV_self e q,Int.mul_comm]
  by_cases w:c∈S.bound
  ·rw[if_pos w]
  ·rw[if_neg w,bV_free q (fun y=>hne y.symm),Int.mul_zero]
