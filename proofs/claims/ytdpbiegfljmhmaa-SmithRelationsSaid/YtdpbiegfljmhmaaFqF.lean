import Derived.Test.YtdpbiegfljmhmaaSmB
import Derived.Test.YtdpbiegfljmhmaaSmV
import Derived.Test.YtdpbiegfljmhmaaSmU
import Derived.Test.YtdpbiegfljmhmaaDetG
import Derived.Test.YtdpbiegfljmhmaaDvA
import Derived.Test.YtdpbiegfljmhmaaDetI
import Derived.Test.YtdpbiegfljmhmaaFqD
import Derived.Test.YtdpbiegfljmhmaaSmX
set_option linter.unusedSimpArgs false
set_option linter.unusedVariables false
namespace Go.Proofs.Ytdpbiegfljmhmaa.Ext
structure Pl where
 β:Nat->Nat->Nat
 K:Nat->Nat->Nat
 μ:Nat->Nat->Nat
 U:Nat->Nat
end Go.Proofs.Ytdpbiegfljmhmaa.Ext
namespace Go.Proofs.Ytdpbiegfljmhmaa
open Go.Sim
namespace Ext
def bC:Nat->Nat
 |0=>9|1=>162|2=>52488|_=>157464
def bU:Nat->Nat
 |0=>1|1=>18|2=>5832|_=>157464
def uU:Nat->Nat
 |0=>0|1=>162|2=>8503218|3=>1338959222370|_=>210839243950492050
def P1(n:Nat):Pl:=⟨fun a c=>if c<n then bC a else bU a,fun a c=>if c<n then bC (a+1)else bU (a+1),fun a c=>if c<n then bC (a+1)else bU (a+1),uU⟩
end Ext
end Go.Proofs.Ytdpbiegfljmhmaa
namespace Go.Proofs.Ytdpbiegfljmhmaa
open Go.Sim
namespace Ext
def b2(s b:Nat):Nat->Nat
 |0=>b
 |a+1=>if a+1<s then 2*(b2 s b a*b2 s b a)else b2 s b a
def u2(s b:Nat):Nat->Nat
 |0=>0
 |a+1=>u2 s b a+u2 s b a*b2 s b (a+1)+b2 s b (a+1)
end Ext
end Go.Proofs.Ytdpbiegfljmhmaa
namespace Go.Proofs.Ytdpbiegfljmhmaa
open Go.Sim
namespace Ext
theorem sumN_split(f:Nat->Int)(r:Nat):∀s,sumN f (r+s)=sumN f r+sumN (fun i=>f (r+i)) s
 |0=>by show sumN f r=sumN f r+0;omega
 |s+1=>by
  show sumN f (r+s)+f (r+s)=sumN f r+(sumN (fun i=>f (r+i)) s+f (r+s));rw[sumN_split f r s];omega
theorem Sp.rest{n m r s:Nat}{F:Nat->Vec}{v:Vec}(hs:r+s=m)(top:Stp (n+m) r F)(lead:∀y,y<r->leadV (n+m) (F y)<n)(low:∀i c,r<=i->i<m->c<n->F i c=0)(hv:Sp (n+m) m F v)(hz:∀c,c<n->v c=0):Sp m s (fun y j=>F (r+y) (n+j)) (fun j=>v (n+j)):=by
 obtain⟨y,hy⟩:=hv;have z:∀i,i<r->y i=0:=by
  intro i
  induction i using Nat.strongRecOn with
  |_ i ih=>
  intro hi;have p1:=lead i hi;have h1:=hy (leadV (n+m) (F i)) (by omega);rw[hz _ p1,sumN_from (i:=i) m (by omega) (fun k hk=>by rw[ih k hk (by omega)];omega) (fun k h1 h2=>by
   by_cases c:k<r
   ·rw[leadV_zero (w:=n+m) (v:=F k) (top.inc i k h1 c)];omega
   ·rw[low k _ (by omega) h2 p1];omega)]at h1
  have h2:=top.pos i hi;rcases Int.mul_eq_zero.1 h1.symm with q|q
  ·exact q
  ·omega
 refine⟨fun i=>y (r+i),fun j hj=>?_⟩;have h1:=hy (n+j) (by omega);rw[<-hs,sumN_split]at h1;rw[sumN_congr (g:=fun _=>0) r (fun i hi=>by rw[z i hi];omega),sumN_zero,Int.zero_add]at h1;exact h1
end Ext
end Go.Proofs.Ytdpbiegfljmhmaa
namespace Go.Proofs.Ytdpbiegfljmhmaa
open Go.Sim
set_option maxRecDepth 100000
theorem Mat.uniq{g:List (List Int)}{m n m' n':Nat}(a:Mat g m n)(b:Mat g m' n'):m=m'/\n=n':=by
 have h1:=a.len;have h2:=b.len;have h3:=a.row 0 (by omega) (by have:=a.m1;omega);have h4:=b.row 0 (by omega) (by have:=b.m1;omega);omega
structure IvI(g:List (List Int))(B:List Fc)(e:Int)(l:List Int):Prop where
 chk:ChkIs g B e
 bad:e≠0->l=[]
 good:e=0->∃m n r,Mat g m n/\InvR g m n r/\l=invL g m n r
structure RlI(g:List (List Int))(B:List Fc)(e:Int)(s w:Nat)(G:Nat->Ext.Vec):Prop where
 chk:ChkIs g B e
 bad:e≠0->s=0/\w=0
 good:e=0->∃m n r A,Mat g m n/\StepsOf g m n r s A/\w=m/\G=fun y j=>A (r+y) (n+j)
theorem Grd.none(h:AHeap)(G:Nat->Ext.Vec):Grd h h 0 0 Option.none 0 (fun _=>0) G:=
 ⟨⟨.refl h,fun y hy=>absurd hy (Nat.not_lt_zero y),fun y hy=>absurd hy (Nat.not_lt_zero y),fun y hy=>absurd hy (Nat.not_lt_zero y),fun y z hy=>absurd hy (Nat.not_lt_zero y)⟩,.nil _ _,.none _,fun ad had=>by cases had⟩
variable{F:Prims}{call head arith cmp scmp bnot bsame conv neg imax imin ofNat slen place inR nz geZ rd wr push next mkOK nat zeros sadd eqAgg cut slc sslc strAt part app cpy putAt fresh lowered bump wrote addN lt ne fpAll fpApp brk yn rng mget mput mnew bytes clr:_}(hA:AP F ⟨call,head,arith,cmp,scmp,bnot,bsame,conv,neg,imax,imin,ofNat,slen,place,inR,nz,geZ,rd,wr,push,next,mkOK,nat,zeros,sadd,eqAgg,cut,slc,sslc,strAt,part,app,cpy,putAt,fresh,lowered,bump,wrote,addN,lt,ne,fpAll,fpApp,brk,yn,rng,mget,mput,mnew,bytes,clr⟩)
include hA
theorem inv_is{h:AHeap}(hlow:h.low<=h.next){m ac k bc:Nat}{aa ba:Option Addr}{hds:List Hd}{g:List (List Int)}{B:List Fc}(hg:GrN nC 1 h aa m hds g)(hB:Rows fC 2 h ba k B)(hi:∀i:Int,0<=i->i<k->i64 (gt B i).n/\i64 (gt B i).d){Q:Value->AHeap->Prop}
  (hQ:∀e h' qa r qc l,IvI g B e l->Rows nC 1 h' qa r l->Ext h h'->Q (.tuple #[.slice qa r qc,.int .i64 e]) h'):call 8 [.agg #[.slice aa m ac,.slice ba k bc]] h Q:=
 Invariants_ok hA hlow hg hB hi (fun e h' c ne x=>hQ e h' none 0 0 [] ⟨c,fun _=>rfl,fun q=>absurd q ne⟩ (Rows.nil h' nC_len (by omega)) x)
  (fun h' n r qa qc c hM x ir t=>hQ 0 h' qa r qc _ ⟨c,fun q=>absurd rfl q,fun _=>⟨m,n,r,hM,ir,rfl⟩⟩ ⟨t.cells,nC_len,by omega⟩ x)
theorem rel_is(hI:InsC F){h:AHeap}(hlow:h.low<=h.next){m ac k bc:Nat}{aa ba:Option Addr}{hds:List Hd}{g:List (List Int)}{B:List Fc}(hg:GrN nC 1 h aa m hds g)(hB:Rows fC 2 h ba k B)(hi:∀i:Int,0<=i->i<k->i64 (gt B i).n/\i64 (gt B i).d){Q:Value->AHeap->Prop}
  (hQ:∀e h0 h' qa s w qc rb G,RlI g B e s w G->Grd h0 h' s w qa qc rb G->Ext h h'->Q (.tuple #[.slice qa s qc,.int .i64 e]) h'):call 10 [.agg #[.slice aa m ac,.slice ba k bc]] h Q:=
 Relations_ok hA hI hlow hg hB hi (fun e h' c ne x=>hQ e h' h' none 0 0 0 _ _ ⟨c,fun _=>⟨rfl,rfl⟩,fun q=>absurd q ne⟩ (Grd.none h' (fun _ _=>0)) x)
  (fun h0 h' n r s qa qc rb A c hM x st gd=>hQ 0 h0 h' qa s m qc rb _ ⟨c,fun q=>absurd rfl q,fun _=>⟨m,n,r,A,hM,st,rfl,rfl⟩⟩ gd (x.trans gd.rows.ext))
end Go.Proofs.Ytdpbiegfljmhmaa
namespace Go.Proofs.Ytdpbiegfljmhmaa
open Go.Sim
namespace Ext
structure Ech(A:Nat->Nat->Int)(m n r:Nat)(p:Nat->Nat):Prop where
 rm:r<=m
 lt:∀i,i<r->p i<n
 inc:∀i j,i<j->j<r->p i<p j
 zero:∀i j,i<r->j<p i->A i j=0
 ne:∀i,i<r->A i (p i)≠0
 low:∀i j,r<=i->i<m->j<n->A i j=0
theorem grow_ge{k:Nat}{r:Nat->Nat}(h:∀i,i+1<k->r i<r (i+1)):∀i,i<k->i<=r i
 |0,_=>Nat.zero_le _
 |i+1,hi=>by have:=grow_ge h i (by omega);have:=h i hi;omega
theorem dt_zrow{s:Nat}(M:Nat->Nat->Int){a:Nat}(ha:a<s)(h:∀j,j<s->M a j=0):dt s M=0:=by
 have:=dt_lin M ha (fun _=>0) (fun _=>0) 0 0;simp only[Int.zero_mul,Int.add_zero]at this;rw[dt_congr (N:=M) (fun x y hx hy=>by
  by_cases c:x=a
  ·rw[if_pos c,c,h y hy]
  ·rw[if_neg c])]at this
 exact this
theorem Ech.over{A:Nat->Nat->Int}{m n r:Nat}{p:Nat->Nat}(e:Ech A m n r p){k:Nat}(hk:k<=4)(h:r<k):AllM A m n k 0:=by
 refine AllM.of hk (fun r' c h1 h2 hr hc=>?_);have:=grow_ge h1 (k-1) (by omega);rw[dt_zrow _ (a:=k-1) (by omega) (fun j hj=>e.low (r' (k-1)) (c j) (by omega) (hr (k-1) (by omega)) (hc j hj))];exact Int.dvd_refl 0
def prodN(f:Nat->Int):Nat->Int
 |0=>1
 |n+1=>prodN f n*f n
theorem dt_tri{s:Nat}(hs:s<=4)(M:Nat->Nat->Int)(h:∀i j,i<s->j<i->M i j=0):dt s M=prodN (fun i=>M i i) s:=by
 have e:s=0\/s=1\/s=2\/s=3\/s=4:=by omega
 rcases e with rfl|rfl|rfl|rfl|rfl
 ·rfl
 ·simp[dt,prodN]
 ·have a:=h 1 0 (by omega) (by omega)
  simp[dt,prodN,d2,a]
 ·have a:=h 1 0 (by omega) (by omega)
  have b:=h 2 0 (by omega) (by omega);have c:=h 2 1 (by omega) (by omega);simp[dt,prodN,d3,d2,a,b,c];grind
 ·have a:=h 1 0 (by omega) (by omega)
  have b:=h 2 0 (by omega) (by omega);have c:=h 2 1 (by omega) (by omega);have d:=h 3 0 (by omega) (by omega);have e:=h 3 1 (by omega) (by omega);have f:=h 3 2 (by omega) (by omega);simp[dt,prodN,d4,d3,d2,a,b,c,d,e,f];grind
theorem prodN_ne{f:Nat->Int}:∀n,(∀i,i<n->f i≠0)->prodN f n≠0
 |0,_=>by show(1:Int)≠0;decide
 |n+1,h=>Int.mul_ne_zero (prodN_ne n (fun i hi=>h i (by omega))) (h n (by omega))
theorem Ech.minor{A:Nat->Nat->Int}{m n r:Nat}{p:Nat->Nat}(e:Ech A m n r p){k:Nat}(hk:k<=4)(h:k<=r):dt k (fun i j=>A i (p j))=prodN (fun i=>A i (p i)) k:=
 dt_tri hk _ (fun i j hi hj=>e.zero i _ (by omega) (e.inc j i hj (by omega)))
theorem Ech.under{A:Nat->Nat->Int}{m n r:Nat}{p:Nat->Nat}(e:Ech A m n r p){k:Nat}(hk:k<=4)(h:k<=r):¬AllM A m n k 0:=fun q=>by
 have h1:=q (fun i=>i) p (fun i hi=>by have:=e.rm;omega) (fun j hj=>e.lt j (by omega));rw[e.minor hk h]at h1;exact prodN_ne k (fun i hi=>e.ne i (by omega)) (Int.zero_dvd.1 h1)
end Ext
theorem StepsOf.ech{g:List (List Int)}{m n r s:Nat}{A:Nat->Ext.Vec}(a:StepsOf g m n r s A):Ext.Ech A m n r (fun i=>Ext.leadV (n+m) (A i)):=by
 have hs:=a.sum;refine⟨by omega,a.lo,fun i j hi hj=>a.hnf.inc i j hi (by omega),fun i j hi hj=>Ext.leadV_zero hj,fun i hi=>?_,fun i j h1 h2 h3=>Ext.leadV_zero (w:=n+m) (by have:=a.hi i h1 h2;omega)⟩;have:=a.hnf.pos i (by omega);omega
theorem StepsOf.minors{g:List (List Int)}{m n r s:Nat}{A:Nat->Ext.Vec}(a:StepsOf g m n r s A){k:Nat}(d:Int):Ext.AllM (fun i j=>Ext.el g i j) m n k d↔Ext.AllM A m n k d:=by
 have ej:∀(i j:Nat),j<n->joinM g n i j=Ext.el g i j:=fun i j hj=>by unfold joinM;rw[if_pos hj];rfl
 constructor
 ·intro h
  refine h.rows (fun i hi=>?_);obtain⟨y,hy⟩:=a.lat.le i hi;exact⟨y,fun j hj=>by
   rw[hy j (by omega)];exact Ext.sumN_congr m (fun t ht=>by rw[ej t j hj])⟩
 ·intro h
  refine h.rows (fun i hi=>?_);obtain⟨y,hy⟩:=a.lat.ge i hi;exact⟨y,fun j hj=>by rw[<-ej i j hj];exact hy j (by omega)⟩
theorem StepsOf.rank{g:List (List Int)}{m n r s:Nat}{A:Nat->Ext.Vec}(hM:Mat g m n)(a:StepsOf g m n r s A):InvR g m n r:=by
 have e:=a.ech;have hs:=a.sum;have m4:=hM.m4;have rn:r<=n:=by
  cases r with
  |zero=>exact Nat.zero_le _
  |succ r=>
   have h1:r<=Ext.leadV (n+m) (A r):=Ext.grow_ge (k:=r+1) (r:=fun i=>Ext.leadV (n+m) (A i)) (fun i hi=>e.inc i (i+1) (by omega) hi) r (by omega);have h2:Ext.leadV (n+m) (A r)<n:=e.lt r (by omega);omega
 have z:∀k,k<=4->(Ext.Dv g m n k=0↔Ext.AllM A m n k 0):=fun k hk=>by
  rw[<-a.minors (k:=k) 0];have:=Ext.Dv_all (g:=g) (m:=m) (n:=n) hk 0;rw[Nat.zero_dvd]at this;exact this
 refine⟨by omega,rn,fun k hk=>?_,?_⟩
 ·rw[Ne,z (k+1) (by omega)]
  exact e.under (by omega) (by omega)
 ·by_cases c:r=m
  ·exact .inl c
  ·right;right
   rw[z (r+1) (by omega)];exact e.over (by omega) (by omega)
end Go.Proofs.Ytdpbiegfljmhmaa
namespace Go.Proofs.Ytdpbiegfljmhmaa
open Go.Sim
set_option maxRecDepth 100000
theorem sumN_swap(f:Nat->Nat->Int)(m:Nat):∀n,Ext.sumN (fun i=>Ext.sumN (fun j=>f i j) m) n=Ext.sumN (fun j=>Ext.sumN (fun i=>f i j) n) m
 |0=>by
  show(0:Int)=Ext.sumN (fun j=>0) m;rw[Ext.sumN_zero]
 |n+1=>by
  show Ext.sumN (fun i=>Ext.sumN (fun j=>f i j) m) n+Ext.sumN (fun j=>f n j) m=Ext.sumN (fun j=>Ext.sumN (fun i=>f i j) n+f n j) m;rw[sumN_swap f m n,Ext.sumN_add]
theorem sumN_mulr(c:Int)(f:Nat->Int)(n:Nat):Ext.sumN (fun k=>f k*c) n=Ext.sumN f n*c:=by
 rw[Int.mul_comm,<-Ext.sumN_mul];exact Ext.sumN_congr n (fun k _=>Int.mul_comm _ _)
theorem join_l{g:List (List Int)}{n i j:Nat}(h:j<n):joinM g n i j=Ext.el g i j:=by unfold joinM;rw[if_pos h];rfl
theorem join_r{g:List (List Int)}{n i j:Nat}:joinM g n i (n+j)=if j=i then 1 else 0:=by
 unfold joinM;rw[if_neg (by omega)];by_cases c:j=i
 ·rw[if_pos c,if_pos (by omega)]
 ·rw[if_neg c,if_neg (by omega)]
theorem join_tail{g:List (List Int)}{n m:Nat}{y:Nat->Int}{j:Nat}(hj:j<m):Ext.sumN (fun i=>y i*joinM g n i (n+j)) m=y j:=by
 rw[Ext.sumN_one m hj (fun k _ ne=>by rw[join_r,if_neg (by omega),Int.mul_zero])];simp only[join_r,if_true,Int.mul_one]
theorem StepsOf.tail{g:List (List Int)}{m n r s:Nat}{A:Nat->Ext.Vec}(a:StepsOf g m n r s A){i:Nat}(hi:i<m){j:Nat}(hj:j<n):A i j=Ext.sumN (fun t=>A i (n+t)*Ext.el g t j) m:=by
 obtain⟨y,hy⟩:=a.lat.le i hi;have ht:∀t,t<m->A i (n+t)=y t:=fun t ht=>by rw[hy (n+t) (by omega),join_tail ht]
 rw[hy j (by omega)];exact Ext.sumN_congr m (fun t h=>by rw[ht t h,join_l hj])
def IsRel(g:List (List Int))(m n:Nat)(u:Nat->Int):Prop:=∀j,j<n->Ext.sumN (fun i=>u i*Ext.el g i j) m=0
theorem StepsOf.rel{g:List (List Int)}{m n r s:Nat}{A:Nat->Ext.Vec}(a:StepsOf g m n r s A){i:Nat}(hi:i<s):IsRel g m n (fun j=>A (r+i) (n+j)):=fun j hj=>by
 have hs:=a.sum;rw[<-a.tail (i:=r+i) (by omega) hj];exact Ext.leadV_zero (w:=n+m) (by have:=a.hi (r+i) (by omega) (by omega);omega)
theorem StepsOf.rels{g:List (List Int)}{m n r s:Nat}{A:Nat->Ext.Vec}(a:StepsOf g m n r s A){u:Nat->Int}(hu:IsRel g m n u):∃y:Nat->Int,∀j,j<m->u j=Ext.sumN (fun i=>y i*A (r+i) (n+j)) s:=by
 have hs:=a.sum;have hv:Ext.Sp (n+m) m A (fun c=>Ext.sumN (fun i=>u i*joinM g n i c) m):=Ext.Sp.le a.lat.ge ⟨u,fun j hj=>rfl⟩;have:=Ext.Sp.rest hs ⟨fun i hi=>a.hnf.lt i (by omega),fun i hi=>a.hnf.pos i (by omega),fun i j hi hj=>a.hnf.inc i j hi (by omega)⟩ a.lo (fun i c h1 h2 h3=>Ext.leadV_zero (w:=n+m) (by have:=a.hi i h1 h2;omega)) hv (fun c hc=>by
  have:=hu c hc;rw[<-this];exact Ext.sumN_congr m (fun k _=>by rw[join_l hc]))
 obtain⟨y,hy⟩:=this;refine⟨y,fun j hj=>?_⟩;rw[<-hy j hj];exact(join_tail hj).symm
def par(B:List Fc)(W:Int)(i:Nat):Int:=(gt B (i:Int)).n*(W / (gt B (i:Int)).d)
def RelsH(g:List (List Int))(B:List Fc)(m n:Nat):Prop:=∀W,Whl B m W->∀u,IsRel g m n u->Ext.sumN (fun i=>u i*par B W i) m % W=0
theorem StepsOf.holds{g:List (List Int)}{m n r s:Nat}{A:Nat->Ext.Vec}(a:StepsOf g m n r s A){B:List Fc}(ht:∀i:Int,0<=i->i<m->turnF (gt B i)/\(gt B i).d<=60){W:Int}(w:Whl B m W):(∀i,i<s->Ext.sumN (fun j=>A (r+i) (n+j)*par B W j) m % W=0)↔RelsH g B m n:=by
 constructor
 ·intro h W' w' u hu
  obtain⟨y,hy⟩:=a.rels hu;have wp:=w.pos;have wp':=w'.pos;have h1:W∣Ext.sumN (fun i=>u i*par B W i) m:=by
   have e:Ext.sumN (fun i=>u i*par B W i) m=Ext.sumN (fun i=>y i*Ext.sumN (fun j=>A (r+i) (n+j)*par B W j) m) s:=by
    rw[Ext.sumN_congr m (g:=fun j=>Ext.sumN (fun i=>y i*(A (r+i) (n+j)*par B W j)) s) (fun j hj=>by
     rw[hy j hj,<-sumN_mulr];exact Ext.sumN_congr s (fun i _=>by rw[Int.mul_assoc])),<-sumN_swap]
    exact Ext.sumN_congr s (fun i _=>by rw[Ext.sumN_mul])
   rw[e];exact Ext.dvd_sum s (fun i hi=>Int.dvd_mul_of_dvd_right (Int.dvd_of_emod_eq_zero (h i hi)))
  have e2:Ext.sumN (fun i=>u i*par B W' i) m*W=Ext.sumN (fun i=>u i*par B W i) m*W':=by
   rw[<-sumN_mulr,<-sumN_mulr];refine Ext.sumN_congr m (fun i hi=>?_);have q1:=(w.part ht hi).1;have q2:=(w'.part ht hi).1;have q3:=q1.uniq q2;have q4:=(rq_eq (show W≠0 by omega) (show W'≠0 by omega)).1 q3;show u i*par B W' i*W=u i*par B W i*W';have q5:par B W i*W'=par B W' i*W:=q4;rw[Int.mul_assoc,<-q5,Int.mul_assoc]
  obtain⟨c,hc⟩:=h1;rw[hc]at e2;have:Ext.sumN (fun i=>u i*par B W' i) m=W'*c:=by
   have e3:W*(Ext.sumN (fun i=>u i*par B W' i) m)=W*(W'*c):=by
    rw[Int.mul_comm,e2,Int.mul_assoc,Int.mul_comm c W']
   exact Int.eq_of_mul_eq_mul_left (by omega) e3
  rw[this];exact Int.mul_emod_right W' c
 ·intro h i hi
  exact h W w _ (a.rel hi)
theorem StepsOf.small{g:List (List Int)}{m n r s:Nat}{A:Nat->Ext.Vec}(hM:Mat g m n)(a:StepsOf g m n r s A){i:Nat}(hi:i<m)(j:Nat):(A i j).natAbs<=629856:=
 a.hnf.small a.lat (fun i hi j=>by
  unfold joinM;split
  ·exact hM.nine _ _
  ·split<;>decide) hM.m4 hi j
end Go.Proofs.Ytdpbiegfljmhmaa
namespace Go.Proofs.Ytdpbiegfljmhmaa
open Go.Sim
set_option maxRecDepth 100000
theorem Whl.few{B:List Fc}{k:Nat}{W:Int}(w:Whl B k W)(k4:k<=4):W<=12960000:=by
 have h:=w.le;have:(60:Nat) ^ k<=60 ^ 4:=Nat.pow_le_pow_right (by omega) k4;omega
theorem par_at{B:List Fc}{W:Int}{k i:Nat}(h:i<k):gt (parL B W k) (i:Int)=par B W i:=parL_at h
theorem part_le{a p W:Int}(ha:a.natAbs<=629856)(p0:0<=p)(p1:p<W)(hW:W<=12960000):(a*p).natAbs<=8162933760000:=by
 have:=Ext.mul_le ha (show p.natAbs<=12960000 by omega);omega
variable{F:Prims}{call head arith cmp scmp bnot bsame conv neg imax imin ofNat slen place inR nz geZ rd wr push next mkOK nat zeros sadd eqAgg cut slc sslc strAt part app cpy putAt fresh lowered bump wrote addN lt ne fpAll fpApp brk yn rng mget mput mnew bytes clr:_}(hA:AP F ⟨call,head,arith,cmp,scmp,bnot,bsame,conv,neg,imax,imin,ofNat,slen,place,inR,nz,geZ,rd,wr,push,next,mkOK,nat,zeros,sadd,eqAgg,cut,slc,sslc,strAt,part,app,cpy,putAt,fresh,lowered,bump,wrote,addN,lt,ne,fpAll,fpApp,brk,yn,rng,mget,mput,mnew,bytes,clr⟩)
include hA
theorem slv_loop{h:AHeap}(hlow:h.low<=h.next){h0:AHeap}{m n r s pc qc:Nat}{pa qa:Option Addr}{rb:Nat->Nat}{g:List (List Int)}{B:List Fc}{A:Nat->Ext.Vec}(hM:Mat g m n)(a:StepsOf g m n r s A)(ht:∀i:Int,0<=i->i<m->turnF (gt B i)/\(gt B i).d<=60){W:Int}(w:Whl B m W)(hp:Rows nC 1 h pa m (parL B W m))(hr:Grd h0 h s m qa qc rb (fun y j=>A (r+y) (n+j))){S:Int}(eS:S=s){c1:List Value}{Q:Exit->SS->Prop}
  (hret:(¬∀i,i<s->Ext.sumN (fun j=>A (r+i) (n+j)*par B W j) m % W=0)->∀env kn T,Q .ret ⟨(2,.bool false) :: env,kn,T,h⟩)
  (hend:(∀i,i<s->Ext.sumN (fun j=>A (r+i) (n+j)*par B W j) m % W=0)->∀kn T,Q (.exit 0) ⟨[],kn,T,h⟩) :
  ∀(d i:Nat) (I:Int),s-i<=d->i<=s->I=i->(∀j,j<i->Ext.sumN (fun k=>A (r+j) (n+k)*par B W k) m % W=0)->
   head 34 4 1 ⟨[(3,.slice pa m pc),(4,.int .i64 W),(21,.slice qa s qc),(22,.int .i64 S),(23,.int .i64 I)],1,[(0,c1)],h⟩ Q:=by
 intro d;have m4:=hM.m4;have hs:=a.sum;have hW:=w.few m4
 induction d with
 |zero=>
  intro i I hd hi eI hz;refine hA.roundR Try.func34 r34_ok (zc ?_);refine br (I<S) (by rw[e_lss hA]) (fun q=>by omega) (fun _=>?_)<;>refine zc ?_;exact hend (fun j hj=>hz j (by omega)) _ _
 |succ d ih=>
 intro i I hd hi eI hz;by_cases ci:i<s
 rotate_left
 ·refine hA.roundR Try.func34 r34_ok (zc ?_)
  refine br (I<S) (by rw[e_lss hA]) (fun q=>by omega) (fun _=>?_)<;>refine zc ?_;exact hend (fun j hj=>hz j (by omega)) _ _
 obtain⟨b,rfl,_,q1⟩:=hr.head ci;obtain⟨cw,ecw⟩:∃z,z=someCap 1 m:=⟨_,rfl⟩;rw[<-ecw]at q1;have r1:rd h b (place 0 I 1) 1 [.slice (some ⟨rb i,0,none⟩) m cw]:=rd_ok hA (by rw[eI];exact q1);have rw1:=hr.rows.rowR ci;have ev:∀v,v=Ext.sumN (fun k=>gt (lst (fun j=>A (r+i) (n+j)) m) (k:Int)*gt (parL B W m) (k:Int)) m % W->v=Ext.sumN (fun k=>A (r+i) (n+k)*par B W k) m % W:=fun v hv=>by
  rw[hv]
  congr 1
  exact Ext.sumN_congr m (fun k hk=>by rw[lst_gt _ hk,par_at hk])
 refine hA.roundR Try.func34 r34_ok (zc ?_);refine br (I<S) (by rw[e_lss hA]) (fun _=>?_) (fun q=>by omega)<;>refine zc ?_;refine zq ?_;refine ssum_ok hA hlow rw1 hp (Nat.le_refl m) (by omega) (B:=8162933760000) (fun k hk=>?_) (by omega) w.pos (by omega) (fun v hv=>⟨v,rfl,?_⟩)
 ·rw[lst_gt _ hk,par_at hk]
  obtain⟨_,p0,p1,_⟩:=w.part ht hk;exact part_le (a.small hM (by omega) _) p0 p1 hW
 have hv2:=ev v hv;clear hv ev;refine zq ?_;refine br (v≠0) (by rw[e_neq hA]) (fun c=>?_) (fun c=>?_)<;>refine zc ?_
 ·refine zq ?_
  exact hret (fun q=>c (hv2.trans (q i ci))) _ _ _
 ·refine zq ?_
  rw[add64 hA (by omega) (by omega)];refine ih (i+1) (I+1) (by omega) (by omega) (by omega) (fun j hj=>?_);by_cases e:j=i
  ·rw[e,<-hv2];omega
  ·exact hz j (by omega)
theorem solvable_ok(hI:InsC F){h:AHeap}(hlow:h.low<=h.next){m n ac k bc:Nat}{aa ba:Option Addr}{hds:List Hd}{g:List (List Int)}{B:List Fc}(hM:Mat g m n)(hg:GrR nC 1 h aa m hds g)(hB:Rows fC 2 h ba k B)(ekm:k=m)(ht:∀i:Int,0<=i->i<m->turnF (gt B i)/\(gt B i).d<=60){Q:Value->AHeap->Prop}
  (hQ:∀(b:Bool) h',(b=true↔RelsH g B m n)->Ext h h'->Q (.bool b) h'):call 34 [.agg #[.slice aa m ac,.slice ba k bc]] h Q:=by
 subst ekm;refine hA.bodyR Try.func34 r34_ok (hA.alike _ _ _ rfl) hlow (zc ?_);refine zq ?_;refine common_ok hA hlow hB hM.m4 ht (fun W h1 pa pc w t x1=>⟨_,_,_,_,rfl,?_⟩);refine zq ?_;refine steps_ok hA hI (x1.lowOK hlow) hM (hg.ext x1) (fun h2 r s ra rc qa qc bs rb A st rw hd gd _=>⟨_,_,_,_,_,_,rfl,?_⟩);obtain⟨S,eS⟩:∃z:Int,z=s:=⟨_,rfl⟩;have e0:ofNat s=S:=by rw[eS];exact e_ofNat hA s
 have x2:=rw.ext
 (refine zq ?_;repeat ((first|rw[e0]);refine zq ?_))
 refine slv_loop hA (x2.lowOK (x1.lowOK hlow)) hM st ht w ⟨(t.ext x2).cells,nC_len,by omega⟩ gd eS (fun q env kn T=>?_) (fun q kn T=>?_) s 0 0 (by omega) (by omega) rfl (fun j hj=>by omega)
 ·refine zq ?_
  exact hQ false h2 ⟨(fun q=>by cases q),fun z=>absurd ((st.holds ht w).2 z) q⟩ (x1.trans x2)
 ·refine zq ?_
  exact hQ true h2 ⟨fun _=>(st.holds ht w).1 q,fun _=>rfl⟩ (x1.trans x2)
theorem Solvable_ok(hI:InsC F){h:AHeap}(hlow:h.low<=h.next){m ac k bc:Nat}{aa ba:Option Addr}{hds:List Hd}{g:List (List Int)}{B:List Fc}(hg:GrN nC 1 h aa m hds g)(hB:Rows fC 2 h ba k B)(hi:∀i:Int,0<=i->i<k->i64 (gt B i).n/\i64 (gt B i).d){Q:Value->AHeap->Prop}
  (hQ0:∀e h',ChkIs g B e->e≠0->Ext h h'->Q (.tuple #[.bool false,.int .i64 e]) h')
  (hQ1:∀(b:Bool) h' n,ChkIs g B 0->Mat g m n->(b=true↔RelsH g B m n)->Ext h h'->Q (.tuple #[.bool b,.int .i64 0]) h'):call 17 [.agg #[.slice aa m ac,.slice ba k bc]] h Q:=by
 refine hA.bodyR Try.func17 r17_ok (hA.alike _ _ _ rfl) hlow (zc ?_);refine zq ?_;refine Check_ok hA hlow hg hB hi (fun e h1 he x1=>⟨e,rfl,?_⟩);refine zq ?_;refine br (e≠0) (by rw[e_neq hA]) (fun c=>?_) (fun c=>?_)<;>refine zc ?_
 ·refine zq ?_
  exact hQ0 e h1 he c x1
 obtain rfl:e=0:=by omega
 obtain⟨gd,nm⟩:=he.good;obtain⟨m',n,hM⟩:=gd.mat nm;obtain rfl:m=m':=by have:=hg.len;have:=hM.len;omega
 have hgf:=hg.full (fun y y0 y1=>by rw[hM.row y y0 y1];exact hM.n1);have hkm:k=m:=by have:=gd.len;have:=hB.len;have:=hg.len;omega
 refine zq ?_;refine solvable_ok hA hI (x1.lowOK hlow) hM (hgf.ext x1) (hB.ext x1) hkm (fun i i0 i1=>gd.turn i i0 (by have:=hB.len;omega)) (fun b h2 hb x2=>⟨b,rfl,?_⟩);refine zq ?_;exact hQ1 b h2 n he hM hb (x1.trans x2)
end Go.Proofs.Ytdpbiegfljmhmaa
namespace Go.Proofs.Ytdpbiegfljmhmaa
open Go.Sim
set_option maxRecDepth 100000
theorem StepsOf.relHnf{g:List (List Int)}{m n r s:Nat}{A:Nat->Ext.Vec}(a:StepsOf g m n r s A):Ext.Hnf m s (fun i j=>A (r+i) (n+j)):=by
 have sa:=a.sum;have la:∀i,i<s->Ext.leadV m (fun j=>A (r+i) (n+j))+n=Ext.leadV (n+m) (A (r+i)):=fun i hi=>by
  have h1:=a.hi (r+i) (by omega) (by omega);have h2:=a.hnf.lt (r+i) (by omega);have:=Ext.leadV_eq (w:=m) (v:=fun j=>A (r+i) (n+j)) (c:=Ext.leadV (n+m) (A (r+i))-n) (by omega) (fun j hj=>Ext.leadV_zero (w:=n+m) (by omega)) (fun _=>by
   show A (r+i) (n+(Ext.leadV (n+m) (A (r+i))-n))≠0;rw[show n+(Ext.leadV (n+m) (A (r+i))-n)=Ext.leadV (n+m) (A (r+i)) by omega];exact Ext.leadV_ne h2)
  omega
 have at_:∀i k,k<s->A (r+i) (n+Ext.leadV m (fun j=>A (r+k) (n+j)))=A (r+i) (Ext.leadV (n+m) (A (r+k))):=fun i k hk=>by
  have:=la k hk
  congr 1
  omega
 refine⟨fun i hi=>?_,fun i hi=>?_,fun i j hi hj=>?_,fun i j hi hj=>?_⟩
 ·have:=la i hi;have:=a.hnf.lt (r+i) (by omega);omega
 ·rw[at_ i i hi];exact a.hnf.pos (r+i) (by omega)
 ·have:=la i (by omega);have:=la j hj;have:=a.hnf.inc (r+i) (r+j) (by omega) (by omega);omega
 ·rw[at_ i j hj,at_ j j hj];exact a.hnf.red (r+i) (r+j) (by omega) (by omega)
theorem Whl.ex{B:List Fc}{k:Nat}(ht:∀i:Int,0<=i->i<k->turnF (gt B i)/\(gt B i).d<=60):∃W,Whl B k W:=by
 have:∀i,i<=k->∃W,Whl B i W:=by
  intro i
  induction i with
  |zero=>intro _;exact⟨1,Whl.start B⟩
  |succ i ih=>
   intro hi;obtain⟨W,w⟩:=ih (by omega);obtain⟨⟨ok,_,_⟩,d60⟩:=ht i (by omega) (by omega);exact⟨_,w.step rfl ok.is.den d60⟩
 exact this k (Nat.le_refl k)
