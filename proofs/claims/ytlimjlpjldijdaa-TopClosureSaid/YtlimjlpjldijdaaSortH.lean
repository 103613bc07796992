import Derived.Test.YtlimjlpjldijdaaSymC
set_option linter.unusedSimpArgs false
set_option linter.unusedVariables false
namespace Go.Proofs.Ytlimjlpjldijdaa
open Go.Sim
def gt{α:Type}[Inhabited α](l:List α)(i:Int):α:=l.getD i.toNat default
structure Rows{α:Type}(enc:α->List Value)(es:Nat)(h:AHeap)(a:Option Addr)(n:Nat)(l:List α):Prop where
 cells:Cells h a n es (l.flatMap enc)
 each:∀x,(enc x).length=es
 pos:0<es
theorem flatE_len{α:Type}{enc:α->List Value}{es:Nat}(he:∀x,(enc x).length=es)(l:List α):(l.flatMap enc).length=l.length*es:=by
 induction l with
 |nil=>simp
 |cons c l ih=>rw[List.flatMap_cons,List.length_append,he,ih,List.length_cons,Nat.add_mul];omega
theorem flatE_drop{α:Type}[Inhabited α]{enc:α->List Value}{es:Nat}(he:∀x,(enc x).length=es)(l:List α)(i:Nat)(hi:i<l.length)(k m:Nat)(hk:k+m<=es):((l.flatMap enc).drop (i*es+k)).take m=((enc (l.getD i default)).drop k).take m:=by
 induction l generalizing i with
 |nil=>simp at hi
 |cons c l ih=>
  cases i with
  |zero=>
   rw[List.flatMap_cons,Nat.zero_mul,Nat.zero_add,List.drop_append_of_le_length (by rw[he];omega),List.take_append_of_le_length (by rw[List.length_drop,he];omega)];rfl
  |succ i=>
   have e:((c :: l).flatMap enc).drop ((i+1)*es+k)=(l.flatMap enc).drop (i*es+k):=by
    rw[List.flatMap_cons,show(i+1)*es+k=(enc c).length+(i*es+k) by rw[he,Nat.add_mul];omega,List.drop_append,List.drop_eq_nil_of_le (by omega),Nat.add_sub_cancel_left,List.nil_append]
   rw[e];exact ih i (by simpa using hi)
theorem Rows.ext{α:Type}{enc:α->List Value}{es:Nat}{h h':AHeap}{a:Option Addr}{n:Nat}{l:List α}(p:Rows enc es h a n l)(e:Ext h h'):Rows enc es h' a n l:=⟨p.cells.ext e,p.each,p.pos⟩
theorem Rows.len{α:Type}{enc:α->List Value}{es:Nat}{h:AHeap}{a:Option Addr}{n:Nat}{l:List α}(p:Rows enc es h a n l):l.length=n:=by
 have h1:=p.cells.length;rw[flatE_len p.each]at h1;exact Nat.eq_of_mul_eq_mul_right p.pos h1
theorem Rows.at{α:Type}[Inhabited α]{enc:α->List Value}{es:Nat}{h:AHeap}{a:Option Addr}{n:Nat}{l:List α}(p:Rows enc es h a n l){i:Int}(h0:0<=i)(hi:i<n) :
  ∃b o,a=some ⟨b,o,none⟩/\b<h.next/\∀k m,k+m<=es->0<m->h.readG ⟨b,o+i.toNat*es+k,none⟩ m=some (((enc (gt l i)).drop k).take m):=by
 have hl:=p.len;have hm:∀k m,k+m<=es->i.toNat*es+k+m<=n*es:=fun k m hk=>by
  have:(i.toNat+1)*es<=n*es:=Nat.mul_le_mul_right _ (by omega);rw[Nat.add_mul]at this;omega
 obtain⟨b,o,h1,h2,_⟩:=p.cells.at (i:=i.toNat*es+0) (m:=es) (hm 0 es (by omega)) p.pos;refine⟨b,o,h1,h2,fun k m hk hp=>?_⟩;obtain⟨b',o',h1',_,h3'⟩:=p.cells.at (i:=i.toNat*es+k) (m:=m) (hm k m hk) hp;rw[h1]at h1';cases h1';rw[Nat.add_assoc,h3',flatE_drop p.each l i.toNat (by omega) k m hk];rfl
theorem Own.rows{α:Type}{enc:α->List Value}{es:Nat}{h:AHeap}{b:Nat}{l:List α}(c:Own h b es (l.flatMap enc))(he:∀x,(enc x).length=es)(hp:0<es)(hb:b<h.next):Rows enc es h (some ⟨b,0,none⟩) l.length l:=by
 refine⟨⟨rfl,hb,?_⟩,he,hp⟩;have:=c.readG (o:=0) (n:=l.length*es) (by rw[flatE_len he];omega);rw[this,List.drop_zero,List.take_of_length_le (by rw[flatE_len he];omega)]
theorem Rows.nil{α:Type}{enc:α->List Value}{es:Nat}(h:AHeap)(he:∀x,(enc x).length=es)(hp:0<es):Rows enc es h none 0 []:=⟨⟨rfl,rfl⟩,he,hp⟩
theorem Own.setRow{α:Type}[Inhabited α]{enc:α->List Value}{es:Nat}{h:AHeap}{b:Nat}{l:List α}(c:Own h b es (l.flatMap enc))(he:∀x,(enc x).length=es){i:Nat}(hi:i<l.length)(x:α):∃h',h.write b (i*es) (enc x)=some h'/\Own h' b es ((l.set i x).flatMap enc)/\Wrote h h' b:=by
 have hle:(i+1)*es<=l.length*es:=Nat.mul_le_mul_right _ (by omega);rw[Nat.add_mul]at hle;obtain⟨h',w1,w2,w3⟩:=c.write (o:=i*es) (vs:=enc x) (by rw[flatE_len he,he];omega);refine⟨h',w1,?_,w3⟩;have e:∀(l:List α) (i:Nat),i<l.length->(l.flatMap enc).take (i*es)++(enc x++(l.flatMap enc).drop (i*es+(enc x).length))=(l.set i x).flatMap enc:=by
  intro l
  induction l with
  |nil=>intro i hi;simp at hi
  |cons c l ih=>
   intro i hi;cases i with
   |zero=>
    rw[List.set_cons_zero,List.flatMap_cons,List.flatMap_cons,Nat.zero_mul,Nat.zero_add,List.take_zero,List.nil_append,he,<-he c,List.drop_left]
   |succ i=>
    rw[List.set_cons_succ,List.flatMap_cons,List.flatMap_cons,show(i+1)*es=(enc c).length+i*es by rw[he,Nat.add_mul];omega,List.take_length_add_append,Nat.add_assoc,List.drop_length_add_append,List.append_assoc];rw[ih i (by simpa using hi)]
 rw[<-e l i hi];exact w2
end Go.Proofs.Ytlimjlpjldijdaa
namespace Go.Proofs.Ytlimjlpjldijdaa
open Go.Sim
theorem gt_map{α β:Type}[Inhabited α][Inhabited β](f:α->β)(l:List α){i:Int}(h0:0<=i)(h1:i<l.length):gt (l.map f) i=f (gt l i):=by
 unfold gt;rw[List.getD,List.getD,List.getElem?_map,List.getElem?_eq_getElem (by omega)];rfl
theorem gt_set{α:Type}[Inhabited α](l:List α){i j:Int}(hi:0<=i)(hj:0<=j)(hl:i<l.length)(x:α):gt (l.set i.toNat x) j=if j=i then x else gt l j:=by
 unfold gt;rw[List.getD_eq_getElem?_getD,List.getD_eq_getElem?_getD,List.getElem?_set];by_cases e:j=i
 ·subst e;rw[if_pos rfl,if_pos (by omega),if_pos rfl];rfl
 ·rw[if_neg (by omega),if_neg e]
theorem gt_take{α:Type}[Inhabited α](l:List α){i:Int}(h0:0<=i)(h1:i<l.length):l.take (i+1).toNat=l.take i.toNat++[gt l i]:=by
 have e:(i+1).toNat=i.toNat+1:=by omega
 have h2:i.toNat<l.length:=by omega
 unfold gt;rw[e,List.take_add_one,List.getD_eq_getElem?_getD,List.getElem?_eq_getElem h2];rfl
theorem gt_mem{α:Type}[Inhabited α](l:List α){i:Int}(h0:0<=i)(h1:i<l.length):gt l i∈l:=by
 have h2:i.toNat<l.length:=by omega
 unfold gt;rw[List.getD_eq_getElem?_getD,List.getElem?_eq_getElem h2];exact List.getElem_mem ..
theorem mem_gt{α:Type}[Inhabited α]{l:List α}{x:α}(h:x∈l):∃i:Int,0<=i/\i<l.length/\gt l i=x:=by
 obtain⟨i,hi,e⟩:=List.getElem_of_mem h;refine⟨i,by omega,by omega,?_⟩;unfold gt;rw[Int.toNat_natCast,List.getD_eq_getElem?_getD,List.getElem?_eq_getElem hi];exact e
structure Pre{α:Type}(le:α->α->Prop):Prop where
 refl:∀x,le x x
 trans:∀x y z,le x y->le y z->le x z
 total:∀x y,le x y\/le y x
theorem Pre.of_not{α:Type}{le:α->α->Prop}(h:Pre le){x y:α}(w:¬le x y):le y x:=(h.total x y).resolve_left w
section
variable{α:Type}[Inhabited α]
def swapL(L:List α)(i j:Int):List α:=(L.set i.toNat (gt L j)).set j.toNat (gt L i)
theorem swap_len(L:List α)(i j:Int):(swapL L i j).length=L.length:=by unfold swapL;rw[List.length_set,List.length_set]
theorem gt_swap(L:List α){i j k:Int}(i0:0<=i)(i1:i<L.length)(j0:0<=j)(j1:j<L.length)(k0:0<=k):gt (swapL L i j) k=if k=j then gt L i else if k=i then gt L j else gt L k:=by
 unfold swapL;rw[gt_set _ j0 k0 (by rw[List.length_set];exact j1),gt_set _ i0 k0 i1]
theorem count_set(L:List α)(p:α->Bool){i:Int}(i0:0<=i)(i1:i<L.length)(x:α):(L.set i.toNat x).countP p+(if p (gt L i)=true then 1 else 0)=L.countP p+if p x=true then 1 else 0:=by
 have h2:i.toNat<L.length:=by omega
 have e:gt L i=L[i.toNat]:=by
  unfold gt;rw[List.getD_eq_getElem?_getD,List.getElem?_eq_getElem h2];rfl
 rw[e,List.countP_set h2];by_cases c:p L[i.toNat]=true
 ·have:0<L.countP p:=List.countP_pos_iff.2 ⟨_,List.getElem_mem h2,c⟩
  by_cases d:p x=true<;>simp[c,d]<;>omega
 ·by_cases d:p x=true<;>simp[c,d]
theorem count_swap(L:List α)(p:α->Bool){i j:Int}(i0:0<=i)(i1:i<L.length)(j0:0<=j)(j1:j<L.length):(swapL L i j).countP p=L.countP p:=by
 unfold swapL;have h1:=count_set L p i0 i1 (gt L j);have h2:=count_set (L.set i.toNat (gt L j)) p (i:=j) j0 (by rw[List.length_set];exact j1) (gt L i);rw[gt_set L i0 j0 i1]at h2;by_cases e:j=i
 ·subst e
  rw[if_pos rfl]at h2;omega
 ·rw[if_neg e]at h2
  omega
structure PermOn(a b:Int)(L L':List α):Prop where
 len:L'.length=L.length
 out:∀j:Int,0<=j->(j<a\/b<=j)->gt L' j=gt L j
 all:∀P:α->Prop,(∀j:Int,a<=j->j<b->P (gt L j))->∀j:Int,a<=j->j<b->P (gt L' j)
 cnt:∀p:α->Bool,L'.countP p=L.countP p
theorem PermOn.refl(a b:Int)(L:List α):PermOn a b L L:=⟨rfl,fun _ _ _=>rfl,fun _ h=>h,fun _=>rfl⟩
theorem PermOn.trans{a b:Int}{L M N:List α}(h:PermOn a b L M)(k:PermOn a b M N):PermOn a b L N:=
 ⟨k.len.trans h.len,fun j j0 q=>(k.out j j0 q).trans (h.out j j0 q),fun P w=>k.all P (h.all P w),fun p=>(k.cnt p).trans (h.cnt p)⟩
theorem PermOn.wide{a b a' b':Int}{L M:List α}(h:PermOn a' b' L M)(a0:0<=a)(ha:a<=a')(hb:b'<=b):PermOn a b L M:=by
 refine⟨h.len,fun j j0 q=>h.out j j0 (by omega),fun P w j ja jb=>?_,h.cnt⟩;by_cases c:a'<=j/\j<b'
 ·exact h.all P (fun k k0 k1=>w k (by omega) (by omega)) j c.1 c.2
 ·rw[h.out j (by omega) (by omega)]
  exact w j ja jb
theorem PermOn.swap{a b:Int}(L:List α){i j:Int}(a0:0<=a)(hb:b<=L.length)(i0:a<=i)(i1:i<b)(j0:a<=j)(j1:j<b):PermOn a b L (swapL L i j):=by
 refine⟨swap_len L i j,fun k k0 q=>?_,fun P w k k0 k1=>?_,fun p=>count_swap L p (by omega) (by omega) (by omega) (by omega)⟩
 ·rw[gt_swap L (by omega) (by omega) (by omega) (by omega) k0,if_neg (by omega),if_neg (by omega)]
 ·rw[gt_swap L (by omega) (by omega) (by omega) (by omega) (by omega)]
  split
  ·exact w i i0 i1
  ·split
   ·exact w j j0 j1
   ·exact w k k0 k1
variable{le:α->α->Prop}
def SortedOn(le:α->α->Prop)(L:List α)(a b:Int):Prop:=∀p q:Int,a<=p->p<q->q<b->le (gt L p) (gt L q)
def InsOn(le:α->α->Prop)(L:List α)(a b j:Int):Prop:=∀p q:Int,a<=p->p<q->q<=b->q≠j->le (gt L p) (gt L q)
theorem InsOn.start{L:List α}{a i:Int}(h:SortedOn le L a i):InsOn le L a i i:=fun p q p0 pq q1 qj=>h p q p0 pq (by omega)
theorem InsOn.first{L:List α}{a i:Int}(h:InsOn le L a i a):SortedOn le L a (i+1):=fun p q p0 pq q1=>h p q p0 pq (by omega) (by omega)
theorem InsOn.stop(hp:Pre le){L:List α}{a i j:Int}(h:InsOn le L a i j)(ja:a<j)(w:le (gt L (j-1)) (gt L j)):SortedOn le L a (i+1):=by
 intro p q p0 pq q1;by_cases e:q=j
 ·subst e
  by_cases e2:p=q-1
  ·rw[e2];exact w
  ·exact hp.trans _ _ _ (h p (q-1) p0 (by omega) (by omega) (by omega)) w
 ·exact h p q p0 pq (by omega) e
theorem InsOn.step(hp:Pre le){L:List α}{a i j:Int}(a0:0<=a)(hl:i<L.length)(h:InsOn le L a i j)(ja:a<j)(ji:j<=i)(w:¬le (gt L (j-1)) (gt L j)):InsOn le (swapL L j (j-1)) a i (j-1):=by
 have w':=hp.of_not w;have g:∀k:Int,0<=k->gt (swapL L j (j-1)) k=if k=j-1 then gt L j else if k=j then gt L (j-1)else gt L k:=fun k k0=>gt_swap L (by omega) (by omega) (by omega) (by omega) k0
 intro p q p0 pq q1 qj;rw[g p (by omega),g q (by omega),if_neg (show ¬q=j-1 from qj)];by_cases e:q=j
 ·rw[if_pos e]
  by_cases e2:p=j-1
  ·rw[if_pos e2];exact w'
  ·rw[if_neg e2,if_neg (show ¬p=j by omega)]
   exact h p (j-1) p0 (by omega) (by omega) (by omega)
 ·rw[if_neg e]
  by_cases e2:p=j-1
  ·rw[if_pos e2]
   exact h j q (by omega) (by omega) q1 e
  ·rw[if_neg e2]
   by_cases e3:p=j
   ·rw[if_pos e3]
    exact h (j-1) q (by omega) (by omega) q1 e
   ·rw[if_neg e3]
    exact h p q p0 pq q1 e
end
end Go.Proofs.Ytlimjlpjldijdaa
namespace Go.Proofs.Ytlimjlpjldijdaa
open Go.Sim
section
variable{α:Type}[Inhabited α]{le:α->α->Prop}
def par(k:Int):Int:=(k-1) / 2
theorem par_of{k r:Int}(h:par k=r)(k0:0<k):k=2*r+1\/k=2*r+2:=by unfold par at h;omega
theorem par_lt{k:Int}(k0:0<k):0<=par k/\par k<k:=by unfold par;omega
def HeapOn(le:α->α->Prop)(L:List α)(f lo hi:Int):Prop:=∀k:Int,0<k->k<hi->lo<=par k->le (gt L (f+k)) (gt L (f+par k))
structure HeapX(le:α->α->Prop)(L:List α)(f lo hi r:Int):Prop where
 rest:∀k:Int,0<k->k<hi->lo<=par k->par k≠r->le (gt L (f+k)) (gt L (f+par k))
 over:∀k:Int,0<k->k<hi->par k=r->0<r->lo<=par r->le (gt L (f+k)) (gt L (f+par r))
theorem HeapX.start{L:List α}{f lo hi:Int}(l0:0<=lo)(h:HeapOn le L f (lo+1) hi):HeapX le L f lo hi lo:=
 ⟨fun k k0 k1 k2 k3=>h k k0 k1 (by omega),fun k k0 k1 k2 r0 k3=>by have:=par_lt r0;omega⟩
theorem HeapX.leaf{L:List α}{f lo hi r:Int}(h:HeapX le L f lo hi r)(hc:hi<=2*r+1):HeapOn le L f lo hi:=fun k k0 k1 k2=>by
 by_cases e:par k=r
 ·have:=par_of e k0;omega
 ·exact h.rest k k0 k1 k2 e
theorem HeapX.stop(hp:Pre le){L:List α}{f lo hi r c:Int}(h:HeapX le L f lo hi r)(hc:∀k:Int,0<k->k<hi->par k=r->le (gt L (f+k)) (gt L (f+c)))(w:le (gt L (f+c)) (gt L (f+r))):HeapOn le L f lo hi:=fun k k0 k1 k2=>by
 by_cases e:par k=r
 ·rw[e];exact hp.trans _ _ _ (hc k k0 k1 e) w
 ·exact h.rest k k0 k1 k2 e
theorem HeapX.step(hp:Pre le){L:List α}{f lo hi r c:Int}(f0:0<=f)(l0:0<=lo)(hl:f+hi<=L.length)(r0:lo<=r)(cr:c=2*r+1\/c=2*r+2)(c1:c<hi)(h:HeapX le L f lo hi r)(hc:∀k:Int,0<k->k<hi->par k=r->le (gt L (f+k)) (gt L (f+c)))(w:le (gt L (f+r)) (gt L (f+c))) :
  HeapX le (swapL L (f+r) (f+c)) f lo hi c:=by
 have cp:par c=r:=by unfold par;omega
 have g:∀k:Int,0<=k->gt (swapL L (f+r) (f+c)) (f+k)=if k=c then gt L (f+r)else if k=r then gt L (f+c)else gt L (f+k):=fun k k0=>by
  rw[gt_swap L (by omega) (by omega) (by omega) (by omega) (by omega)];by_cases e1:k=c
  ·rw[if_pos (by omega),if_pos e1]
  ·rw[if_neg (by omega),if_neg e1]
   by_cases e2:k=r
   ·rw[if_pos (by omega),if_pos e2]
   ·rw[if_neg (by omega),if_neg e2]
 refine⟨fun k k0 k1 k2 k3=>?_,fun k k0 k1 k2 c0 k3=>?_⟩
 ·have pk:=par_lt k0
  rw[g k (by omega),g (par k) (by omega),if_neg k3];by_cases e:par k=r
  ·rw[if_pos e]
   by_cases e2:k=c
   ·rw[if_pos e2];exact w
   ·rw[if_neg e2,if_neg (by omega)]
    exact hc k k0 k1 e
  ·rw[if_neg e,if_neg (fun q=>e (by rw[q];exact cp))]
   by_cases e2:k=r
   ·subst e2
    rw[if_pos rfl];exact h.over c (by omega) c1 cp k0 k2
   ·rw[if_neg e2]
    exact h.rest k k0 k1 k2 e
 ·rw[g k (by omega),g (par c) (by rw[cp];omega),cp]
  have:=par_lt k0;rw[if_neg (by omega),if_neg (by omega),if_neg (by omega),if_pos rfl];have:=h.rest k k0 k1 (by omega) (by omega);rw[k2]at this;exact this
theorem HeapOn.top(hp:Pre le){L:List α}{f hi:Int}(h:HeapOn le L f 0 hi):∀(n:Nat) (k:Int),k.toNat<=n->0<=k->k<hi->le (gt L (f+k)) (gt L (f+0)):=by
 intro n
 induction n with
 |zero=>intro k hk k0 k1;rw[show k=0 by omega];exact hp.refl _
 |succ n ih=>
  intro k hk k0 k1;by_cases e:k=0
  ·rw[e];exact hp.refl _
  ·have pk:=par_lt (k:=k) (by omega)
   exact hp.trans _ _ _ (h k (by omega) k1 pk.1) (ih (par k) (by omega) pk.1 (by omega))
structure HSort(le:α->α->Prop)(L:List α)(f i b:Int):Prop where
 heap:HeapOn le L f 0 (i-f)
 up:SortedOn le L i b
 cross:∀p q:Int,f<=p->p<i->i<=q->q<b->le (gt L p) (gt L q)
theorem HSort.swap(hp:Pre le){L:List α}{f i b:Int}(f0:0<=f)(hl:b<=L.length)(h:HSort le L f (i+1) b)(i0:f<=i)(i1:i<b) :
  HeapX le (swapL L f i) f 0 (i-f) 0/\SortedOn le (swapL L f i) i b/\∀p q:Int,f<=p->p<i->i<=q->q<b->le (gt (swapL L f i) p) (gt (swapL L f i) q):=by
 have g:∀k:Int,0<=k->gt (swapL L f i) k=if k=i then gt L f else if k=f then gt L i else gt L k:=fun k k0=>gt_swap L (by omega) (by omega) (by omega) (by omega) k0
 have top:∀p:Int,f<=p->p<i+1->le (gt L p) (gt L f):=fun p p0 p1=>by
  have:=h.heap.top hp (p-f).toNat (p-f) (by omega) (by omega) (by omega);rw[show f+(p-f)=p by omega,Int.add_zero]at this;exact this
 refine⟨⟨fun k k0 k1 k2 k3=>?_,fun k k0 k1 k2 r0=>by omega⟩,fun p q p0 pq q1=>?_,fun p q p0 p1 q0 q1=>?_⟩
 ·have pk:=par_lt k0
  rw[g _ (by omega),g _ (by omega),if_neg (by omega),if_neg (by omega),if_neg (by omega),if_neg (by omega)];exact h.heap k k0 (by omega) k2
 ·rw[g p (by omega),g q (by omega),if_neg (show ¬q=i by omega),if_neg (show ¬q=f by omega)]
  by_cases e:p=i
  ·rw[if_pos e];exact h.cross f q (by omega) (by omega) (by omega) q1
  ·rw[if_neg e,if_neg (by omega)]
   exact h.up p q (by omega) pq q1
 ·rw[g p (by omega),g q (by omega),if_neg (show ¬p=i by omega)]
  have le1:∀x,(∃k:Int,f<=k/\k<i+1/\x=gt L k)->le x (if q=i then gt L f else if q=f then gt L i else gt L q):=by
   rintro x ⟨k,k0,k1,rfl⟩;by_cases e:q=i
   ·rw[if_pos e];exact top k k0 k1
   ·rw[if_neg e,if_neg (by omega)]
    exact h.cross k q k0 k1 (by omega) q1
  by_cases e:p=f
  ·rw[if_pos e];exact le1 _ ⟨i,i0,by omega,rfl⟩
  ·rw[if_neg e];exact le1 _ ⟨p,p0,by omega,rfl⟩
theorem PermOn.keep{L M:List α}{f i b:Int}(f0:0<=f)(h:PermOn f i L M)(fi:f<=i)(up:SortedOn le L i b)(cross:∀p q:Int,f<=p->p<i->i<=q->q<b->le (gt L p) (gt L q)) :
  SortedOn le M i b/\∀p q:Int,f<=p->p<i->i<=q->q<b->le (gt M p) (gt M q):=by
 constructor
 ·intro p q p0 pq q1
  rw[h.out p (by omega) (by omega),h.out q (by omega) (by omega)];exact up p q p0 pq q1
 ·intro p q p0 p1 q0 q1
  rw[h.out q (by omega) (by omega)];exact h.all (fun x=>le x (gt L q)) (fun k k0 k1=>cross k q k0 k1 q0 q1) p p0 p1
theorem SortedOn.join{L:List α}{a m b:Int}(h1:SortedOn le L a m)(h2:SortedOn le L m b)(cross:∀p q:Int,a<=p->p<m->m<=q->q<b->le (gt L p) (gt L q)):SortedOn le L a b:=by
 intro p q p0 pq q1;by_cases c1:q<m
 ·exact h1 p q p0 pq c1
 ·by_cases c2:p<m
  ·exact cross p q p0 c2 (by omega) q1
  ·exact h2 p q (by omega) pq q1
theorem SortedOn.one{L:List α}{a b:Int}(h:b<=a+1):SortedOn le L a b:=fun p q p0 pq q1=>by omega
end
end Go.Proofs.Ytlimjlpjldijdaa
namespace Go.Proofs.Ytlimjlpjldijdaa
open Go.Sim
section
variable{α:Type}[Inhabited α]{le:α->α->Prop}
structure Part(le:α->α->Prop)(L:List α)(a b i j:Int):Prop where
 i0:a<i
 j1:j<b
 ij:i<=j+1
 low:∀p:Int,a<p->p<i->le (gt L p) (gt L a)
 high:∀p:Int,j<p->p<b->le (gt L a) (gt L p)
theorem Part.start(L:List α){a b:Int}(h:a<b):Part le L a b (a+1) (b-1):=⟨by omega,by omega,by omega,fun p p0 p1=>by omega,fun p p0 p1=>by omega⟩
theorem Part.left{L:List α}{a b i j:Int}(h:Part le L a b i j)(c:i<=j)(w:le (gt L i) (gt L a)):Part le L a b (i+1) j:=
 ⟨by have:=h.i0;omega,h.j1,by omega,fun p p0 p1=>by
  by_cases e:p=i
  ·rw[e];exact w
  ·exact h.low p p0 (by omega),h.high⟩
theorem Part.right{L:List α}{a b i j:Int}(h:Part le L a b i j)(c:i<=j)(w:le (gt L a) (gt L j)):Part le L a b i (j-1):=
 ⟨h.i0,by have:=h.j1;omega,by omega,h.low,fun p p0 p1=>by
  by_cases e:p=j
  ·rw[e];exact w
  ·exact h.high p (by omega) p1⟩
theorem Part.swap{L:List α}{a b i j:Int}(a0:0<=a)(hb:b<=L.length)(h:Part le L a b i j)(c:i<j)(w1:le (gt L a) (gt L i))(w2:le (gt L j) (gt L a)):Part le (swapL L i j) a b (i+1) (j-1):=by
 have hi:=h.i0;have hj:=h.j1;have g:∀k:Int,0<=k->gt (swapL L i j) k=if k=j then gt L i else if k=i then gt L j else gt L k:=fun k k0=>gt_swap L (by omega) (by omega) (by omega) (by omega) k0
 refine⟨by omega,by omega,by omega,fun p p0 p1=>?_,fun p p0 p1=>?_⟩
 ·rw[g p (by omega),g a a0,if_neg (show ¬p=j by omega),if_neg (show ¬a=j by omega),if_neg (show ¬a=i by omega)]
  by_cases e:p=i
  ·rw[if_pos e];exact w2
  ·rw[if_neg e];exact h.low p p0 (by omega)
 ·rw[g p (by omega),g a a0,if_neg (show ¬a=j by omega),if_neg (show ¬a=i by omega)]
  by_cases e:p=j
  ·rw[if_pos e];exact w1
  ·rw[if_neg e,if_neg (by omega)];exact h.high p (by omega) p1
theorem Part.done{L:List α}{a b i j:Int}(a0:0<=a)(hb:b<=L.length)(h:Part le L a b i j)(c:j<i) :
  (∀p:Int,a<=p->p<j->le (gt (swapL L j a) p) (gt (swapL L j a) j))/\(∀p:Int,j<p->p<b->le (gt (swapL L j a) j) (gt (swapL L j a) p)):=by
 have hi:=h.i0;have hj:=h.j1;have ij:=h.ij;have g:∀k:Int,0<=k->gt (swapL L j a) k=if k=a then gt L j else if k=j then gt L a else gt L k:=fun k k0=>gt_swap L (by omega) (by omega) (by omega) (by omega) k0
 have gj:gt (swapL L j a) j=gt L a:=by
  rw[g j (by omega)];by_cases e:j=a
  ·rw[if_pos e,e]
  ·rw[if_neg e,if_pos rfl]
 rw[gj];refine⟨fun p p0 p1=>?_,fun p p0 p1=>?_⟩
 ·rw[g p (by omega)]
  by_cases e:p=a
  ·rw[if_pos e];exact h.low j (by omega) (by omega)
  ·rw[if_neg e,if_neg (by omega)];exact h.low p (by omega) (by omega)
 ·rw[g p (by omega),if_neg (by omega),if_neg (by omega)]
  exact h.high p p0 p1
structure Pdq(le:α->α->Prop)(L:List α)(A B a b:Int):Prop where
 s1:SortedOn le L A a
 s2:SortedOn le L b B
 c1:∀p q:Int,A<=p->p<a->a<=q->q<B->le (gt L p) (gt L q)
 c2:∀p q:Int,A<=p->p<b->b<=q->q<B->le (gt L p) (gt L q)
 r0:A<=a
 r1:a<=b
 r2:b<=B
theorem Pdq.start(L:List α){A B:Int}(h:A<=B):Pdq le L A B A B:=⟨fun p q p0 pq q1=>by omega,fun p q p0 pq q1=>by omega,fun p q p0 p1 q0 q1=>by omega,fun p q p0 p1 q0 q1=>by omega,Int.le_refl _,h,Int.le_refl _⟩
theorem Pdq.perm{L M:List α}{A B a b:Int}(A0:0<=A)(h:Pdq le L A B a b)(k:PermOn a b L M):Pdq le M A B a b:=by
 have r0:=h.r0;have r1:=h.r1;refine⟨fun p q p0 pq q1=>?_,fun p q p0 pq q1=>?_,fun p q p0 p1 q0 q1=>?_,fun p q p0 p1 q0 q1=>?_,h.r0,h.r1,h.r2⟩
 ·rw[k.out p (by omega) (by omega),k.out q (by omega) (by omega)]
  exact h.s1 p q p0 pq q1
 ·rw[k.out p (by omega) (by omega),k.out q (by omega) (by omega)]
  exact h.s2 p q p0 pq q1
 ·rw[k.out p (by omega) (by omega)]
  by_cases c:q<b
  ·exact k.all (fun x=>le (gt L p) x) (fun j j0 j1=>h.c1 p j p0 p1 j0 (by have:=h.r2;omega)) q q0 c
  ·rw[k.out q (by omega) (by omega)]
   exact h.c1 p q p0 p1 q0 q1
 ·rw[k.out q (by omega) (by omega)]
  by_cases c:a<=p
  ·exact k.all (fun x=>le x (gt L q)) (fun j j0 j1=>h.c2 j q (by omega) j1 q0 q1) p c p1
  ·rw[k.out p (by omega) (by omega)]
   exact h.c2 p q p0 p1 q0 q1
theorem Pdq.done{L:List α}{A B a b:Int}(h:Pdq le L A B a b)(s:SortedOn le L a b):SortedOn le L A B:=by
 have r2:=h.r2;refine SortedOn.join (SortedOn.join h.s1 s (fun p q p0 p1 q0 q1=>h.c1 p q p0 p1 q0 (by omega))) h.s2 (fun p q p0 p1 q0 q1=>h.c2 p q p0 p1 q0 q1)
theorem Pdq.left(hp:Pre le){L M:List α}{A B a b m:Int}(A0:0<=A)(h:Pdq le L A B a b)(am:a<=m)(mb:m<b)(h1:∀p:Int,a<=p->p<m->le (gt L p) (gt L m))(h2:∀p:Int,m<p->p<b->le (gt L m) (gt L p))(k:PermOn a m L M)(s:SortedOn le M a m):Pdq le M A B (m+1) b:=by
 have r0:=h.r0;have r2:=h.r2;have kw:=k.wide (a:=a) (b:=b) (by omega) (by omega) (by omega);have hM:=h.perm A0 kw;have m1:∀p:Int,a<=p->p<m->le (gt M p) (gt M m):=fun p p0 p1=>by
  rw[k.out m (by omega) (by omega)];exact k.all (fun x=>le x (gt L m)) (fun j j0 j1=>h1 j j0 j1) p p0 p1
 have m2:∀q:Int,m<q->q<B->le (gt M m) (gt M q):=fun q q0 q1=>by
  by_cases c:q<b
  ·rw[k.out m (by omega) (by omega),k.out q (by omega) (by omega)]
   exact h2 q q0 c
  ·exact hM.c2 m q (by omega) mb (by omega) q1
 refine⟨?_,hM.s2,fun p q p0 p1 q0 q1=>?_,hM.c2,by omega,by omega,h.r2⟩
 ·refine SortedOn.join (m:=a) hM.s1 (SortedOn.join (m:=m) s (SortedOn.one (by omega)) (fun p q p0 p1 q0 q1=>?_)) (fun p q p0 p1 q0 q1=>hM.c1 p q p0 p1 q0 (by omega))
  rw[show q=m by omega];exact m1 p p0 p1
 ·by_cases c:p<a
  ·exact hM.c1 p q p0 c (by omega) q1
  ·by_cases e:p=m
   ·rw[e];exact m2 q (by omega) q1
   ·exact hp.trans _ _ _ (m1 p (by omega) (by omega)) (m2 q (by omega) q1)
theorem Pdq.right(hp:Pre le){L M:List α}{A B a b m:Int}(A0:0<=A)(h:Pdq le L A B a b)(am:a<=m)(mb:m<b)(h1:∀p:Int,a<=p->p<m->le (gt L p) (gt L m))(h2:∀p:Int,m<p->p<b->le (gt L m) (gt L p))(k:PermOn (m+1) b L M)(s:SortedOn le M (m+1) b):Pdq le M A B a m:=by
 have r0:=h.r0;have r2:=h.r2;have kw:=k.wide (a:=a) (b:=b) (by omega) (by omega) (by omega);have hM:=h.perm A0 kw;have m2:∀q:Int,m<q->q<b->le (gt M m) (gt M q):=fun q q0 q1=>by
  rw[k.out m (by omega) (by omega)];exact k.all (fun x=>le (gt L m) x) (fun j j0 j1=>h2 j (by omega) j1) q (by omega) q1
 have m1:∀p:Int,A<=p->p<m->le (gt M p) (gt M m):=fun p p0 p1=>by
  by_cases c:a<=p
  ·rw[k.out m (by omega) (by omega),k.out p (by omega) (by omega)]
   exact h1 p c p1
  ·exact hM.c1 p m p0 (by omega) am (by omega)
 have c3:∀p q:Int,A<=p->p<=m->m<q->q<B->le (gt M p) (gt M q):=fun p q p0 p1 q0 q1=>by
  by_cases c:q<b
  ·by_cases e:p=m
   ·rw[e];exact m2 q q0 c
   ·exact hp.trans _ _ _ (m1 p p0 (by omega)) (m2 q q0 c)
  ·exact hM.c2 p q p0 (by omega) (by omega) q1
 refine⟨hM.s1,?_,hM.c1,fun p q p0 p1 q0 q1=>?_,by omega,by omega,by omega⟩
 ·refine SortedOn.join (m:=m+1) (SortedOn.one (by omega)) (SortedOn.join (m:=b) s hM.s2 (fun p q p0 p1 q0 q1=>hM.c2 p q (by omega) p1 q0 q1)) (fun p q p0 p1 q0 q1=>?_)
  exact c3 p q (by omega) (by omega) (by omega) q1
 ·by_cases e:q=m
  ·rw[e];exact m1 p p0 p1
  ·exact c3 p q p0 (by omega) (by omega) q1
theorem Pdq.equal{L:List α}{A B a b m:Int}(h:Pdq le L A B a b)(am:a<=m)(mb:m<=b)(e:∀p q:Int,a<=p->p<m->a<=q->q<b->le (gt L p) (gt L q)):Pdq le L A B m b:=by
 have r0:=h.r0;have r2:=h.r2;refine⟨SortedOn.join (m:=a) h.s1 (fun p q p0 pq q1=>e p q p0 (by omega) (by omega) (by omega)) (fun p q p0 p1 q0 q1=>h.c1 p q p0 p1 q0 (by omega)),h.s2,fun p q p0 p1 q0 q1=>?_,h.c2,by omega,by omega,h.r2⟩;by_cases c:p<a
 ·exact h.c1 p q p0 c (by omega) q1
 ·by_cases d:q<b
  ·exact e p q (by omega) p1 (by omega) d
  ·exact h.c2 p q p0 (by omega) (by omega) q1
end
