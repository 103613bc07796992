import Derived.Test.YtmkiclinllifiaaSymApp2
set_option linter.unusedSimpArgs false
set_option linter.unusedVariables false
namespace Go.Proofs.Ytmkiclinllifiaa
open Go.Sim
section
variable{α:Type}[Inhabited α]{le:α->α->Prop}
def par(k:Int):Int:=(k-1) / 2
theorem par_of{k r:Int}(h:par k=r)(k0:0<k):k=2*r+1\/k=2*r+2:=by unfold par at h;omega
theorem par_lt{k:Int}(k0:0<k):0<=par k/\par k<k:=by unfold par;omega
def HeapOn(le:α->α->Prop)(L:List α)(f lo hi:Int):Prop:=∀k:Int,0<k->k<hi->lo<=par k->le (gt L (f+k)) (gt L (f+par k))
structure HeapX(le:α->α->Prop)(L:List α)(f lo hi r:Int):Prop where
 rest:∀k:Int,0<k->k<hi->lo<=par k->par k≠r->le (gt L (f+k)) (gt L (f+par k))
 over:∀k:Int,0<k->k<hi->par k=r->0<r->lo<=par r->le (gt L (f+k)) (gt L (f+par r))
theorem HeapX.start{L:List α}{f lo hi:Int}(l0:0<=lo)(h:HeapOn le L f (lo+1) hi):HeapX le L f lo hi lo:=
 ⟨fun k k0 k1 k2 k3=>h k k0 k1 (by omega),fun k k0 k1 k2 r0 k3=>by have:=par_lt r0;omega⟩
theorem HeapX.leaf{L:List α}{f lo hi r:Int}(h:HeapX le L f lo hi r)(hc:hi<=2*r+1):HeapOn le L f lo hi:=fun k k0 k1 k2=>by
 by_cases e:par k=r
 ·have:=par_of e k0;omega
 ·exact h.rest k k0 k1 k2 e
theorem HeapX.stop(hp:Pre le){L:List α}{f lo hi r c:Int}(h:HeapX le L f lo hi r)(hc:∀k:Int,0<k->k<hi->par k=r->le (gt L (f+k)) (gt L (f+c)))(w:le (gt L (f+c)) (gt L (f+r))):HeapOn le L f lo hi:=fun k k0 k1 k2=>by
 by_cases e:par k=r
 ·rw[e];exact hp.trans _ _ _ (hc k k0 k1 e) w
 ·exact h.rest k k0 k1 k2 e
theorem HeapX.step(hp:Pre le){L:List α}{f lo hi r c:Int}(f0:0<=f)(l0:0<=lo)(hl:f+hi<=L.length)(r0:lo<=r)(cr:c=2*r+1\/c=2*r+2)(c1:c<hi)(h:HeapX le L f lo hi r)(hc:∀k:Int,0<k->k<hi->par k=r->le (gt L (f+k)) (gt L (f+c)))(w:le (gt L (f+r)) (gt L (f+c))) :
  HeapX le (swapL L (f+r) (f+c)) f lo hi c:=by
 have cp:par c=r:=by unfold par;omega
 have g:∀k:Int,0<=k->gt (swapL L (f+r) (f+c)) (f+k)=if k=c then gt L (f+r)else if k=r then gt L (f+c)else gt L (f+k):=fun k k0=>by
  rw[gt_swap L (by omega) (by omega) (by omega) (by omega) (by omega)];by_cases e1:k=c
  ·rw[if_pos (by omega),if_pos e1]
  ·rw[if_neg (by omega),if_neg e1]
   by_cases e2:k=r
   ·rw[if_pos (by omega),if_pos e2]
   ·rw[if_neg (by omega),if_neg e2]
 refine⟨fun k k0 k1 k2 k3=>?_,fun k k0 k1 k2 c0 k3=>?_⟩
 ·have pk:=par_lt k0
  rw[g k (by omega),g (par k) (by omega),if_neg k3];by_cases e:par k=r
  ·rw[if_pos e]
   by_cases e2:k=c
   ·rw[if_pos e2];exact w
   ·rw[if_neg e2,if_neg (by omega)]
    exact hc k k0 k1 e
  ·rw[if_neg e,if_neg (fun q=>e (by rw[q];exact cp))]
   by_cases e2:k=r
   ·subst e2
    rw[if_pos rfl];exact h.over c (by omega) c1 cp k0 k2
   ·rw[if_neg e2]
    exact h.rest k k0 k1 k2 e
 ·rw[g k (by omega),g (par c) (by rw[cp];omega),cp]
  have:=par_lt k0;rw[if_neg (by omega),if_neg (by omega),if_neg (by omega),if_pos rfl];have:=h.rest k k0 k1 (by omega) (by omega);rw[k2]at this;exact this
theorem HeapOn.top(hp:Pre le){L:List α}{f hi:Int}(h:HeapOn le L f 0 hi):∀(n:Nat) (k:Int),k.toNat<=n->0<=k->k<hi->le (gt L (f+k)) (gt L (f+0)):=by
 intro n
 induction n with
 |zero=>intro k hk k0 k1;rw[show k=0 by omega];exact hp.refl _
 |succ n ih=>
  intro k hk k0 k1;by_cases e:k=0
  ·rw[e];exact hp.refl _
  ·have pk:=par_lt (k:=k) (by omega)
   exact hp.trans _ _ _ (h k (by omega) k1 pk.1) (ih (par k) (by omega) pk.1 (by omega))
structure HSort(le:α->α->Prop)(L:List α)(f i b:Int):Prop where
 heap:HeapOn le L f 0 (i-f)
 up:SortedOn le L i b
 cross:∀p q:Int,f<=p->p<i->i<=q->q<b->le (gt L p) (gt L q)
theorem HSort.swap(hp:Pre le){L:List α}{f i b:Int}(f0:0<=f)(hl:b<=L.length)(h:HSort le L f (i+1) b)(i0:f<=i)(i1:i<b) :
  HeapX le (swapL L f i) f 0 (i-f) 0/\SortedOn le (swapL L f i) i b/\∀p q:Int,f<=p->p<i->i<=q->q<b->le (gt (swapL L f i) p) (gt (swapL L f i) q):=by
 have g:∀k:Int,0<=k->gt (swapL L f i) k=if k=i then gt L f else if k=f then gt L i else gt L k:=fun k k0=>gt_swap L (by omega) (by omega) (by omega) (by omega) k0
 have top:∀p:Int,f<=p->p<i+1->le (gt L p) (gt L f):=fun p p0 p1=>by
  have:=h.heap.top hp (p-f).toNat (p-f) (by omega) (by omega) (by omega);rw[show f+(p-f)=p by omega,Int.add_zero]at this;exact this
 refine⟨⟨fun k k0 k1 k2 k3=>?_,fun k k0 k1 k2 r0=>by omega⟩,fun p q p0 pq q1=>?_,fun p q p0 p1 q0 q1=>?_⟩
 ·have pk:=par_lt k0
  rw[g _ (by omega),g _ (by omega),if_neg (by omega),if_neg (by omega),if_neg (by omega),if_neg (by omega)];exact h.heap k k0 (by omega) k2
 ·rw[g p (by omega),g q (by omega),if_neg (show ¬q=i by omega),if_neg (show ¬q=f by omega)]
  by_cases e:p=i
  ·rw[if_pos e];exact h.cross f q (by omega) (by omega) (by omega) q1
  ·rw[if_neg e,if_neg (by omega)]
   exact h.up p q (by omega) pq q1
 ·rw[g p (by omega),g q (by omega),if_neg (show ¬p=i by omega)]
  have le1:∀x,(∃k:Int,f<=k/\k<i+1/\x=gt L k)->le x (if q=i then gt L f else if q=f then gt L i else gt L q):=by
   rintro x ⟨k,k0,k1,rfl⟩;by_cases e:q=i
   ·rw[if_pos e];exact top k k0 k1
   ·rw[if_neg e,if_neg (by omega)]
    exact h.cross k q k0 k1 (by omega) q1
  by_cases e:p=f
  ·rw[if_pos e];exact le1 _ ⟨i,i0,by omega,rfl⟩
  ·rw[if_neg e];exact le1 _ ⟨p,p0,by omega,rfl⟩
theorem PermOn.keep{L M:List α}{f i b:Int}(f0:0<=f)(h:PermOn f i L M)(fi:f<=i)(up:SortedOn le L i b)(cross:∀p q:Int,f<=p->p<i->i<=q->q<b->le (gt L p) (gt L q)) :
  SortedOn le M i b/\∀p q:Int,f<=p->p<i->i<=q->q<b->le (gt M p) (gt M q):=by
 constructor
 ·intro p q p0 pq q1
  rw[h.out p (by omega) (by omega),h.out q (by omega) (by omega)];exact up p q p0 pq q1
 ·intro p q p0 p1 q0 q1
  rw[h.out q (by omega) (by omega)];exact h.all (fun x=>le x (gt L q)) (fun k k0 k1=>cross k q k0 k1 q0 q1) p p0 p1
theorem SortedOn.join{L:List α}{a m b:Int}(h1:SortedOn le L a m)(h2:SortedOn le L m b)(cross:∀p q:Int,a<=p->p<m->m<=q->q<b->le (gt L p) (gt L q)):SortedOn le L a b:=by
 intro p q p0 pq q1;by_cases c1:q<m
 ·exact h1 p q p0 pq c1
 ·by_cases c2:p<m
  ·exact cross p q p0 c2 (by omega) q1
  ·exact h2 p q (by omega) pq q1
theorem SortedOn.one{L:List α}{a b:Int}(h:b<=a+1):SortedOn le L a b:=fun p q p0 pq q1=>by omega
end
end Go.Proofs.Ytmkiclinllifiaa
namespace Go.Proofs.Ytmkiclinllifiaa
open Go.Sim
section
variable{α:Type}[Inhabited α]{le:α->α->Prop}
structure Part(le:α->α->Prop)(L:List α)(a b i j:Int):Prop where
 i0:a<i
 j1:j<b
 ij:i<=j+1
 low:∀p:Int,a<p->p<i->le (gt L p) (gt L a)
 high:∀p:Int,j<p->p<b->le (gt L a) (gt L p)
theorem Part.start(L:List α){a b:Int}(h:a<b):Part le L a b (a+1) (b-1):=⟨by omega,by omega,by omega,fun p p0 p1=>by omega,fun p p0 p1=>by omega⟩
theorem Part.left{L:List α}{a b i j:Int}(h:Part le L a b i j)(c:i<=j)(w:le (gt L i) (gt L a)):Part le L a b (i+1) j:=
 ⟨by have:=h.i0;omega,h.j1,by omega,fun p p0 p1=>by
  by_cases e:p=i
  ·rw[e];exact w
  ·exact h.low p p0 (by omega),h.high⟩
theorem Part.right{L:List α}{a b i j:Int}(h:Part le L a b i j)(c:i<=j)(w:le (gt L a) (gt L j)):Part le L a b i (j-1):=
 ⟨h.i0,by have:=h.j1;omega,by omega,h.low,fun p p0 p1=>by
  by_cases e:p=j
  ·rw[e];exact w
  ·exact h.high p (by omega) p1⟩
theorem Part.swap{L:List α}{a b i j:Int}(a0:0<=a)(hb:b<=L.length)(h:Part le L a b i j)(c:i<j)(w1:le (gt L a) (gt L i))(w2:le (gt L j) (gt L a)):Part le (swapL L i j) a b (i+1) (j-1):=by
 have hi:=h.i0;have hj:=h.j1;have g:∀k:Int,0<=k->gt (swapL L i j) k=if k=j then gt L i else if k=i then gt L j else gt L k:=fun k k0=>gt_swap L (by omega) (by omega) (by omega) (by omega) k0
 refine⟨by omega,by omega,by omega,fun p p0 p1=>?_,fun p p0 p1=>?_⟩
 ·rw[g p (by omega),g a a0,if_neg (show ¬p=j by omega),if_neg (show ¬a=j by omega),if_neg (show ¬a=i by omega)]
  by_cases e:p=i
  ·rw[if_pos e];exact w2
  ·rw[if_neg e];exact h.low p p0 (by omega)
 ·rw[g p (by omega),g a a0,if_neg (show ¬a=j by omega),if_neg (show ¬a=i by omega)]
  by_cases e:p=j
  ·rw[if_pos e];exact w1
  ·rw[if_neg e,if_neg (by omega)];exact h.high p (by omega) p1
theorem Part.done{L:List α}{a b i j:Int}(a0:0<=a)(hb:b<=L.length)(h:Part le L a b i j)(c:j<i) :
  (∀p:Int,a<=p->p<j->le (gt (swapL L j a) p) (gt (swapL L j a) j))/\(∀p:Int,j<p->p<b->le (gt (swapL L j a) j) (gt (swapL L j a) p)):=by
 have hi:=h.i0;have hj:=h.j1;have ij:=h.ij;have g:∀k:Int,0<=k->gt (swapL L j a) k=if k=a then gt L j else if k=j then gt L a else gt L k:=fun k k0=>gt_swap L (by omega) (by omega) (by omega) (by omega) k0
 have gj:gt (swapL L j a) j=gt L a:=by
  rw[g j (by omega)];by_cases e:j=a
  ·rw[if_pos e,e]
  ·rw[if_neg e,if_pos rfl]
 rw[gj];refine⟨fun p p0 p1=>?_,fun p p0 p1=>?_⟩
 ·rw[g p (by omega)]
  by_cases e:p=a
  ·rw[if_pos e];exact h.low j (by omega) (by omega)
  ·rw[if_neg e,if_neg (by omega)];exact h.low p (by omega) (by omega)
 ·rw[g p (by omega),if_neg (by omega),if_neg (by omega)]
  exact h.high p p0 p1
structure Pdq(le:α->α->Prop)(L:List α)(A B a b:Int):Prop where
 s1:SortedOn le L A a
 s2:SortedOn le L b B
 c1:∀p q:Int,A<=p->p<a->a<=q->q<B->le (gt L p) (gt L q)
 c2:∀p q:Int,A<=p->p<b->b<=q->q<B->le (gt L p) (gt L q)
 r0:A<=a
 r1:a<=b
 r2:b<=B
theorem Pdq.start(L:List α){A B:Int}(h:A<=B):Pdq le L A B A B:=⟨fun p q p0 pq q1=>by omega,fun p q p0 pq q1=>by omega,fun p q p0 p1 q0 q1=>by omega,fun p q p0 p1 q0 q1=>by omega,Int.le_refl _,h,Int.le_refl _⟩
theorem Pdq.perm{L M:List α}{A B a b:Int}(A0:0<=A)(h:Pdq le L A B a b)(k:PermOn a b L M):Pdq le M A B a b:=by
 have r0:=h.r0;have r1:=h.r1;refine⟨fun p q p0 pq q1=>?_,fun p q p0 pq q1=>?_,fun p q p0 p1 q0 q1=>?_,fun p q p0 p1 q0 q1=>?_,h.r0,h.r1,h.r2⟩
 ·rw[k.out p (by omega) (by omega),k.out q (by omega) (by omega)]
  exact h.s1 p q p0 pq q1
 ·rw[k.out p (by omega) (by omega),k.out q (by omega) (by omega)]
  exact h.s2 p q p0 pq q1
 ·rw[k.out p (by omega) (by omega)]
  by_cases c:q<b
  ·exact k.all (fun x=>le (gt L p) x) (fun j j0 j1=>h.c1 p j p0 p1 j0 (by have:=h.r2;omega)) q q0 c
  ·rw[k.out q (by omega) (by omega)]
   exact h.c1 p q p0 p1 q0 q1
 ·rw[k.out q (by omega) (by omega)]
  by_cases c:a<=p
  ·exact k.all (fun x=>le x (gt L q)) (fun j j0 j1=>h.c2 j q (by omega) j1 q0 q1) p c p1
  ·rw[k.out p (by omega) (by omega)]
   exact h.c2 p q p0 p1 q0 q1
theorem Pdq.done{L:List α}{A B a b:Int}(h:Pdq le L A B a b)(s:SortedOn le L a b):SortedOn le L A B:=by
 have r2:=h.r2;refine SortedOn.join (SortedOn.join h.s1 s (fun p q p0 p1 q0 q1=>h.c1 p q p0 p1 q0 (by omega))) h.s2 (fun p q p0 p1 q0 q1=>h.c2 p q p0 p1 q0 q1)
theorem Pdq.left(hp:Pre le){L M:List α}{A B a b m:Int}(A0:0<=A)(h:Pdq le L A B a b)(am:a<=m)(mb:m<b)(h1:∀p:Int,a<=p->p<m->le (gt L p) (gt L m))(h2:∀p:Int,m<p->p<b->le (gt L m) (gt L p))(k:PermOn a m L M)(s:SortedOn le M a m):Pdq le M A B (m+1) b:=by
 have r0:=h.r0;have r2:=h.r2;have kw:=k.wide (a:=a) (b:=b) (by omega) (by omega) (by omega);have hM:=h.perm A0 kw;have m1:∀p:Int,a<=p->p<m->le (gt M p) (gt M m):=fun p p0 p1=>by
  rw[k.out m (by omega) (by omega)];exact k.all (fun x=>le x (gt L m)) (fun j j0 j1=>h1 j j0 j1) p p0 p1
 have m2:∀q:Int,m<q->q<B->le (gt M m) (gt M q):=fun q q0 q1=>by
  by_cases c:q<b
  ·rw[k.out m (by omega) (by omega),k.out q (by omega) (by omega)]
   exact h2 q q0 c
  ·exact hM.c2 m q (by omega) mb (by omega) q1
 refine⟨?_,hM.s2,fun p q p0 p1 q0 q1=>?_,hM.c2,by omega,by omega,h.r2⟩
 ·refine SortedOn.join (m:=a) hM.s1 (SortedOn.join (m:=m) s (SortedOn.one (by omega)) (fun p q p0 p1 q0 q1=>?_)) (fun p q p0 p1 q0 q1=>hM.c1 p q p0 p1 q0 (by omega))
  rw[show q=m by omega];exact m1 p p0 p1
 ·by_cases c:p<a
  ·exact hM.c1 p q p0 c (by omega) q1
  ·by_cases e:p=m
   ·rw[e];exact m2 q (by omega) q1
   ·exact hp.trans _ _ _ (m1 p (by omega) (by omega)) (m2 q (by omega) q1)
theorem Pdq.right(hp:Pre le){L M:List α}{A B a b m:Int}(A0:0<=A)(h:Pdq le L A B a b)(am:a<=m)(mb:m<b)(h1:∀p:Int,a<=p->p<m->le (gt L p) (gt L m))(h2:∀p:Int,m<p->p<b->le (gt L m) (gt L p))(k:PermOn (m+1) b L M)(s:SortedOn le M (m+1) b):Pdq le M A B a m:=by
 have r0:=h.r0;have r2:=h.r2;have kw:=k.wide (a:=a) (b:=b) (by omega) (by omega) (by omega);have hM:=h.perm A0 kw;have m2:∀q:Int,m<q->q<b->le (gt M m) (gt M q):=fun q q0 q1=>by
  rw[k.out m (by omega) (by omega)];exact k.all (fun x=>le (gt L m) x) (fun j j0 j1=>h2 j (by omega) j1) q (by omega) q1
 have m1:∀p:Int,A<=p->p<m->le (gt M p) (gt M m):=fun p p0 p1=>by
  by_cases c:a<=p
  ·rw[k.out m (by omega) (by omega),k.out p (by omega) (by omega)]
   exact h1 p c p1
  ·exact hM.c1 p m p0 (by omega) am (by omega)
 have c3:∀p q:Int,A<=p->p<=m->m<q->q<B->le (gt M p) (gt M q):=fun p q p0 p1 q0 q1=>by
  by_cases c:q<b
  ·by_cases e:p=m
   ·rw[e];exact m2 q q0 c
   ·exact hp.trans _ _ _ (m1 p p0 (by omega)) (m2 q q0 c)
  ·exact hM.c2 p q p0 (by omega) (by omega) q1
 refine⟨hM.s1,?_,hM.c1,fun p q p0 p1 q0 q1=>?_,by omega,by omega,by omega⟩
 ·refine SortedOn.join (m:=m+1) (SortedOn.one (by omega)) (SortedOn.join (m:=b) s hM.s2 (fun p q p0 p1 q0 q1=>hM.c2 p q (by omega) p1 q0 q1)) (fun p q p0 p1 q0 q1=>?_)
  exact c3 p q (by omega) (by omega) (by omega) q1
 ·by_cases e:q=m
  ·rw[e];exact m1 p p0 p1
  ·exact c3 p q p0 (by omega) (by omega) q1
theorem Pdq.equal{L:List α}{A B a b m:Int}(h:Pdq le L A B a b)(am:a<=m)(mb:m<=b)(e:∀p q:Int,a<=p->p<m->a<=q->q<b->le (gt L p) (gt L q)):Pdq le L A B m b:=by
 have r0:=h.r0;have r2:=h.r2;refine⟨SortedOn.join (m:=a) h.s1 (fun p q p0 pq q1=>e p q p0 (by omega) (by omega) (by omega)) (fun p q p0 p1 q0 q1=>h.c1 p q p0 p1 q0 (by omega)),h.s2,fun p q p0 p1 q0 q1=>?_,h.c2,by omega,by omega,h.r2⟩;by_cases c:p<a
 ·exact h.c1 p q p0 c (by omega) q1
 ·by_cases d:q<b
  ·exact e p q (by omega) p1 (by omega) d
  ·exact h.c2 p q p0 (by omega) (by omega) q1
end
