import Derived.Test.YtdpbiegfljmhmaaFracM
import Derived.Test.YtdpbiegfljmhmaaSeatH
import Derived.Test.YtdpbiegfljmhmaaSeatG
import Derived.KernelRfl
set_option linter.unusedSimpArgs false
set_option linter.unusedVariables false
namespace Go.Proofs.Ytdpbiegfljmhmaa
open Go.cL
def gt{α:Type}[Inhabited α](l:List α)(i:Int):α:=l.getD i.toNat default
structure Rows{α:Type}(enc:α->List Value)(es:Nat)(h:af)(a:Option Addr)(n:Nat)(l:List α):Prop where
 cells:Cells h a n es (l.flatMap enc)
 each:∀x,(enc x).length=es
 pos:0<es
theorem fU{α:Type}{enc:α->List Value}{es:Nat}(he:∀x,(enc x).length=es)(l:List α):(l.flatMap enc).length=l.length*es:=by
 induction l with
 |nil=>simp
 |cons c l ih=>rw[List.flatMap_cons,List.length_append,he,ih,List.length_cons,Nat.add_mul];omega
theorem Ga{α:Type}[Inhabited α]{enc:α->List Value}{es:Nat}(he:∀x,(enc x).length=es)(l:List α)(i:Nat)(hi:i<l.length)(k m:Nat)(hk:k+m<=es):((l.flatMap enc).drop (i*es+k)).take m=((enc (l.getD i default)).drop k).take m:=by
 induction l generalizing i with
 |nil=>simp at hi
 |cons c l ih=>
  cases i with
  |zero=>
   rw[List.flatMap_cons,Nat.zero_mul,Nat.zero_add,List.drop_append_of_le_length (by rw[he];omega),List.take_append_of_le_length (by rw[List.length_drop,he];omega)];rfl
  |succ i=>
   have e:((c :: l).flatMap enc).drop ((i+1)*es+k)=(l.flatMap enc).drop (i*es+k):=by
    rw[List.flatMap_cons,show(i+1)*es+k=(enc c).length+(i*es+k) by rw[he,Nat.add_mul];omega,List.drop_append,List.drop_eq_nil_of_le om,Nat.add_sub_cancel_left,List.nil_append]
   rw[e];exact ih i (by simpa using hi)
theorem Rows.ext{α:Type}{enc:α->List Value}{es:Nat}{h h':af}{a:Option Addr}{n:Nat}{l:List α}(p:Rows enc es h a n l)(e:Ext h h'):Rows enc es h' a n l:=⟨p.cells.ext e,p.each,p.pos⟩
theorem Rows.len{α:Type}{enc:α->List Value}{es:Nat}{h:af}{a:Option Addr}{n:Nat}{l:List α}(p:Rows enc es h a n l):l.length=n:=by
 have h1:=p.cells.length;rw[fU p.each]at h1;exact Nat.eq_of_mul_eq_mul_right p.pos h1
theorem Rows.at{α:Type}[Inhabited α]{enc:α->List Value}{es:Nat}{h:af}{a:Option Addr}{n:Nat}{l:List α}(p:Rows enc es h a n l){i:Int}(h0:0<=i)(hi:i<n) :
  ∃b o,a=some ⟨b,o,none⟩/\b<h.next/\∀k m,k+m<=es->0<m->h.aL ⟨b,o+i.toNat*es+k,none⟩ m=some (((enc (gt l i)).drop k).take m):=by
 have hl:=p.len;have hm:∀k m,k+m<=es->i.toNat*es+k+m<=n*es:=fun k m hk=>by
  have:(i.toNat+1)*es<=n*es:=Nat.mul_le_mul_right _ om;rw[Nat.add_mul]at this;omega
 obtain⟨b,o,h1,h2,_⟩:=p.cells.at (i:=i.toNat*es+0) (m:=es) (hm 0 es om) p.pos;refine⟨b,o,h1,h2,fun k m hk hp=>?_⟩;obtain⟨b',o',sK,_,h3'⟩:=p.cells.at (i:=i.toNat*es+k) (m:=m) (hm k m hk) hp;rw[h1]at sK;cases sK;rw[Nat.add_assoc,h3',Ga p.each l i.toNat om k m hk];rfl
theorem aJ.rows{α:Type}{enc:α->List Value}{es:Nat}{h:af}{b:Nat}{l:List α}(c:aJ h b es (l.flatMap enc))(he:∀x,(enc x).length=es)(hp:0<es)(hb:b<h.next):Rows enc es h (some ⟨b,0,none⟩) l.length l:=by
 refine⟨⟨rfl,hb,?_⟩,he,hp⟩;have:=c.aL (o:=0) (n:=l.length*es) (by rw[fU he];omega);rw[this,List.drop_zero,List.take_of_length_le (by rw[fU he];omega)]
theorem Rows.nil{α:Type}{enc:α->List Value}{es:Nat}(h:af)(he:∀x,(enc x).length=es)(hp:0<es):Rows enc es h none 0 []:=⟨⟨rfl,rfl⟩,he,hp⟩
theorem aJ.setRow{α:Type}[Inhabited α]{enc:α->List Value}{es:Nat}{h:af}{b:Nat}{l:List α}(c:aJ h b es (l.flatMap enc))(he:∀x,(enc x).length=es){i:Nat}(hi:i<l.length)(x:α):∃h',h.write b (i*es) (enc x)=some h'/\aJ h' b es ((l.set i x).flatMap enc)/\jV h h' b:=by
 have hle:(i+1)*es<=l.length*es:=Nat.mul_le_mul_right _ om;rw[Nat.add_mul]at hle;obtain⟨h',w1,w2,w3⟩:=c.write (o:=i*es) (vs:=enc x) (by rw[fU he,he];omega);refine⟨h',w1,?_,w3⟩;have e:∀(l:List α) (i:Nat),i<l.length->(l.flatMap enc).take (i*es)++(enc x++(l.flatMap enc).drop (i*es+(enc x).length))=(l.set i x).flatMap enc:=by
  intro l
  induction l with
  |nil=>intro i hi;simp at hi
  |cons c l ih=>
   intro i hi;cases i with
   |zero=>
    rw[List.set_cons_zero,List.flatMap_cons,List.flatMap_cons,Nat.zero_mul,Nat.zero_add,List.take_zero,List.nil_append,he,<-he c,List.drop_left]
   |succ i=>
    rw[List.set_cons_succ,List.flatMap_cons,List.flatMap_cons,show(i+1)*es=(enc c).length+i*es by rw[he,Nat.add_mul];omega,List.take_length_add_append,Nat.add_assoc,List.drop_length_add_append,List.append_assoc];rw[ih i (by simpa using hi)]
 rw[<-e l i hi];exact w2
theorem aab{α β:Type}[Inhabited α][Inhabited β](f:α->β)(l:List α){i:Int}(h0:0<=i)(h1:i<l.length):gt (l.map f) i=f (gt l i):=by
 unfold gt;rw[List.getD,List.getD,List.getElem?_map,List.getElem?_eq_getElem om];rfl
theorem Bn{α:Type}[Inhabited α](l:List α){i j:Int}(hi:0<=i)(hj:0<=j)(hl:i<l.length)(x:α):gt (l.set i.toNat x) j=if j=i then x else gt l j:=by
 unfold gt;rw[List.getD_eq_getElem?_getD,List.getD_eq_getElem?_getD,List.getElem?_set];by_cases e:j=i
 ·subst e;rw[if_pos rfl,if_pos om,if_pos rfl];rfl
 ·rw[if_neg om,if_neg e]
theorem Td{α:Type}[Inhabited α](l:List α){i:Int}(h0:0<=i)(h1:i<l.length):gt l i∈l:=by
 have h2:i.toNat<l.length:=om
 unfold gt;rw[List.getD_eq_getElem?_getD,List.getElem?_eq_getElem h2];exact List.getElem_mem ..
structure Lh{α:Type}(le:α->α->Prop):Prop where
 refl:∀x,le x x
 trans:∀x y z,le x y->le y z->le x z
 total:∀x y,le x y\/le y x
theorem Lh.Te{α:Type}{le:α->α->Prop}(h:Lh le){x y:α}(w:¬le x y):le y x:=(h.total x y).resolve_left w
section
variable{α:Type}[Inhabited α]
def dy(L:List α)(i j:Int):List α:=(L.set i.toNat (gt L j)).set j.toNat (gt L i)
theorem Lw(L:List α)(i j:Int):(dy L i j).length=L.length:=by unfold dy;rw[List.length_set,List.length_set]
theorem je(L:List α){i j k:Int}(i0:0<=i)(i1:i<L.length)(j0:0<=j)(j1:j<L.length)(k0:0<=k):gt (dy L i j) k=if k=j then gt L i else if k=i then gt L j else gt L k:=by
 unfold dy;rw[Bn _ j0 k0 (by rw[List.length_set];exact j1),Bn _ i0 k0 i1]
theorem count_set(L:List α)(p:α->Bool){i:Int}(i0:0<=i)(i1:i<L.length)(x:α):(L.set i.toNat x).countP p+(if p (gt L i)=true then 1 else 0)=L.countP p+if p x=true then 1 else 0:=by
 have h2:i.toNat<L.length:=om
 have e:gt L i=L[i.toNat]:=by
  unfold gt;rw[List.getD_eq_getElem?_getD,List.getElem?_eq_getElem h2];rfl
 rw[e,List.countP_set h2];by_cases c:p L[i.toNat]=true
 ·have:0<L.countP p:=List.countP_pos_iff.2 ⟨_,List.getElem_mem h2,c⟩
  by_cases d:p x=true<;>simp[c,d]<;>omega
 ·by_cases d:p x=true<;>simp[c,d]
theorem Gb(L:List α)(p:α->Bool){i j:Int}(i0:0<=i)(i1:i<L.length)(j0:0<=j)(j1:j<L.length):(dy L i j).countP p=L.countP p:=by
 unfold dy;have h1:=count_set L p i0 i1 (gt L j);have h2:=count_set (L.set i.toNat (gt L j)) p (i:=j) j0 (by rw[List.length_set];exact j1) (gt L i);rw[Bn L i0 j0 i1]at h2;by_cases e:j=i
 ·subst e
  rw[if_pos rfl]at h2;omega
 ·rw[if_neg e]at h2
  omega
structure aG(a b:Int)(L L':List α):Prop where
 len:L'.length=L.length
 out:∀j:Int,0<=j->(j<a\/b<=j)->gt L' j=gt L j
 all:∀P:α->Prop,(∀j:Int,a<=j->j<b->P (gt L j))->∀j:Int,a<=j->j<b->P (gt L' j)
 sH:∀p:α->Bool,L'.countP p=L.countP p
theorem aG.refl(a b:Int)(L:List α):aG a b L L:=⟨rfl,fun _ _ _=>rfl,fun _ h=>h,fun _=>rfl⟩
theorem aG.trans{a b:Int}{L M N:List α}(h:aG a b L M)(k:aG a b M N):aG a b L N:=
 ⟨k.len.trans h.len,fun j j0 q=>(k.out j j0 q).trans (h.out j j0 q),fun P w=>k.all P (h.all P w),fun p=>(k.sH p).trans (h.sH p)⟩
theorem aG.wide{a b a' b':Int}{L M:List α}(h:aG a' b' L M)(a0:0<=a)(ha:a<=a')(hb:b'<=b):aG a b L M:=by
 refine⟨h.len,fun j j0 q=>h.out j j0 om,fun P w j ja jb=>?_,h.sH⟩;by_cases c:a'<=j/\j<b'
 ·exact h.all P (fun k k0 k1=>w k om om) j c.1 c.2
 ·rw[h.out j om om]
  exact w j ja jb
theorem aG.swap{a b:Int}(L:List α){i j:Int}(a0:0<=a)(hb:b<=L.length)(i0:a<=i)(i1:i<b)(j0:a<=j)(j1:j<b):aG a b L (dy L i j):=by
 refine⟨Lw L i j,fun k k0 q=>?_,fun P w k k0 k1=>?_,fun p=>Gb L p om om om om⟩
 ·rw[je L om om om om k0,if_neg om,if_neg om]
 ·rw[je L om om om om om]
  split
  ·exact w i i0 i1
  ·split
   ·exact w j j0 j1
   ·exact w k k0 k1
variable{le:α->α->Prop}
def aE(le:α->α->Prop)(L:List α)(a b:Int):Prop:=∀p q:Int,a<=p->p<q->q<b->le (gt L p) (gt L q)
def oH(le:α->α->Prop)(L:List α)(a b j:Int):Prop:=∀p q:Int,a<=p->p<q->q<=b->q≠j->le (gt L p) (gt L q)
theorem oH.start{L:List α}{a i:Int}(h:aE le L a i):oH le L a i i:=fun p q p0 pq q1 qj=>h p q p0 pq om
theorem oH.first{L:List α}{a i:Int}(h:oH le L a i a):aE le L a (i+1):=fun p q p0 pq q1=>h p q p0 pq om om
theorem oH.stop(hp:Lh le){L:List α}{a i j:Int}(h:oH le L a i j)(ja:a<j)(w:le (gt L (j-1)) (gt L j)):aE le L a (i+1):=by
 intro p q p0 pq q1;by_cases e:q=j
 ·subst e
  by_cases e2:p=q-1
  ·rw[e2];exact w
  ·exact hp.trans _ _ _ (h p (q-1) p0 om om om) w
 ·exact h p q p0 pq om e
theorem oH.step(hp:Lh le){L:List α}{a i j:Int}(a0:0<=a)(hl:i<L.length)(h:oH le L a i j)(ja:a<j)(ji:j<=i)(w:¬le (gt L (j-1)) (gt L j)):oH le (dy L j (j-1)) a i (j-1):=by
 have w':=hp.Te w;have g:∀k:Int,0<=k->gt (dy L j (j-1)) k=if k=j-1 then gt L j else if k=j then gt L (j-1)else gt L k:=fun k k0=>je L om om om om k0
 intro p q p0 pq q1 qj;rw[g p om,g q om,if_neg (show ¬q=j-1 from qj)];by_cases e:q=j
 ·rw[if_pos e]
  by_cases e2:p=j-1
  ·rw[if_pos e2];exact w'
  ·rw[if_neg e2,if_neg (show ¬p=j by omega)]
   exact h p (j-1) p0 om om om
 ·rw[if_neg e]
  by_cases e2:p=j-1
  ·rw[if_pos e2]
   exact h j q om om q1 e
  ·rw[if_neg e2]
   by_cases e3:p=j
   ·rw[if_pos e3]
    exact h (j-1) q om om q1 e
   ·rw[if_neg e3]
    exact h p q p0 pq q1 e
end
section
variable{α:Type}[Inhabited α]{le:α->α->Prop}
def par(k:Int):Int:=(k-1) / 2
theorem Bp{k r:Int}(h:par k=r)(k0:0<k):k=2*r+1\/k=2*r+2:=by unfold par at h;omega
theorem wM{k:Int}(k0:0<k):0<=par k/\par k<k:=by unfold par;omega
def mC(le:α->α->Prop)(L:List α)(f lo hi:Int):Prop:=∀k:Int,0<k->k<hi->lo<=par k->le (gt L (f+k)) (gt L (f+par k))
structure oI(le:α->α->Prop)(L:List α)(f lo hi r:Int):Prop where
 rest:∀k:Int,0<k->k<hi->lo<=par k->par k≠r->le (gt L (f+k)) (gt L (f+par k))
 over:∀k:Int,0<k->k<hi->par k=r->0<r->lo<=par r->le (gt L (f+k)) (gt L (f+par r))
theorem oI.start{L:List α}{f lo hi:Int}(l0:0<=lo)(h:mC le L f (lo+1) hi):oI le L f lo hi lo:=
 ⟨fun k k0 k1 k2 k3=>h k k0 k1 om,fun k k0 k1 k2 r0 k3=>by have:=wM r0;omega⟩
theorem oI.leaf{L:List α}{f lo hi r:Int}(h:oI le L f lo hi r)(hc:hi<=2*r+1):mC le L f lo hi:=fun k k0 k1 k2=>by
 by_cases e:par k=r
 ·have:=Bp e k0;omega
 ·exact h.rest k k0 k1 k2 e
theorem oI.stop(hp:Lh le){L:List α}{f lo hi r c:Int}(h:oI le L f lo hi r)(hc:∀k:Int,0<k->k<hi->par k=r->le (gt L (f+k)) (gt L (f+c)))(w:le (gt L (f+c)) (gt L (f+r))):mC le L f lo hi:=fun k k0 k1 k2=>by
 by_cases e:par k=r
 ·rw[e];exact hp.trans _ _ _ (hc k k0 k1 e) w
 ·exact h.rest k k0 k1 k2 e
theorem oI.step(hp:Lh le){L:List α}{f lo hi r c:Int}(f0:0<=f)(l0:0<=lo)(hl:f+hi<=L.length)(r0:lo<=r)(cr:c=2*r+1\/c=2*r+2)(c1:c<hi)(h:oI le L f lo hi r)(hc:∀k:Int,0<k->k<hi->par k=r->le (gt L (f+k)) (gt L (f+c)))(w:le (gt L (f+r)) (gt L (f+c))) :
  oI le (dy L (f+r) (f+c)) f lo hi c:=by
 have cp:par c=r:=by unfold par;omega
 have g:∀k:Int,0<=k->gt (dy L (f+r) (f+c)) (f+k)=if k=c then gt L (f+r)else if k=r then gt L (f+c)else gt L (f+k):=fun k k0=>by
  rw[je L om om om om om];by_cases e1:k=c
  ·rw[if_pos om,if_pos e1]
  ·rw[if_neg om,if_neg e1]
   by_cases e2:k=r
   ·rw[if_pos om,if_pos e2]
   ·rw[if_neg om,if_neg e2]
 refine⟨fun k k0 k1 k2 k3=>?_,fun k k0 k1 k2 c0 k3=>?_⟩
 ·have pk:=wM k0
  rw[g k om,g (par k) om,if_neg k3];by_cases e:par k=r
  ·rw[if_pos e]
   by_cases e2:k=c
   ·rw[if_pos e2];exact w
   ·rw[if_neg e2,if_neg om]
    exact hc k k0 k1 e
  ·rw[if_neg e,if_neg (fun q=>e (by rw[q];exact cp))]
   by_cases e2:k=r
   ·subst e2
    rw[if_pos rfl];exact h.over c om c1 cp k0 k2
   ·rw[if_neg e2]
    exact h.rest k k0 k1 k2 e
 ·rw[g k om,g (par c) (by rw[cp];omega),cp]
  have:=wM k0;rw[if_neg om,if_neg om,if_neg om,if_pos rfl];have:=h.rest k k0 k1 om om;rw[k2]at this;exact this
theorem mC.top(hp:Lh le){L:List α}{f hi:Int}(h:mC le L f 0 hi):∀(n:Nat) (k:Int),k.toNat<=n->0<=k->k<hi->le (gt L (f+k)) (gt L (f+0)):=by
 intro n
 induction n with
 |zero=>intro k hk k0 k1;rw[show k=0 by omega];exact hp.refl _
 |succ n ih=>
  intro k hk k0 k1;by_cases e:k=0
  ·rw[e];exact hp.refl _
  ·have pk:=wM (k:=k) om
   exact hp.trans _ _ _ (h k om k1 pk.1) (ih (par k) om pk.1 om)
structure Lx(le:α->α->Prop)(L:List α)(f i b:Int):Prop where
 heap:mC le L f 0 (i-f)
 up:aE le L i b
 AD:∀p q:Int,f<=p->p<i->i<=q->q<b->le (gt L p) (gt L q)
theorem Lx.swap(hp:Lh le){L:List α}{f i b:Int}(f0:0<=f)(hl:b<=L.length)(h:Lx le L f (i+1) b)(i0:f<=i)(i1:i<b) :
  oI le (dy L f i) f 0 (i-f) 0/\aE le (dy L f i) i b/\∀p q:Int,f<=p->p<i->i<=q->q<b->le (gt (dy L f i) p) (gt (dy L f i) q):=by
 have g:∀k:Int,0<=k->gt (dy L f i) k=if k=i then gt L f else if k=f then gt L i else gt L k:=fun k k0=>je L om om om om k0
 have top:∀p:Int,f<=p->p<i+1->le (gt L p) (gt L f):=fun p p0 p1=>by
  have:=h.heap.top hp (p-f).toNat (p-f) om om om;rw[show f+(p-f)=p by omega,Int.add_zero]at this;exact this
 refine⟨⟨fun k k0 k1 k2 k3=>?_,fun k k0 k1 k2 r0=>om⟩,fun p q p0 pq q1=>?_,fun p q p0 p1 q0 q1=>?_⟩
 ·have pk:=wM k0
  rw[g _ om,g _ om,if_neg om,if_neg om,if_neg om,if_neg om];exact h.heap k k0 om k2
 ·rw[g p om,g q om,if_neg (show ¬q=i by omega),if_neg (show ¬q=f by omega)]
  by_cases e:p=i
  ·rw[if_pos e];exact h.AD f q om om om q1
  ·rw[if_neg e,if_neg om]
   exact h.up p q om pq q1
 ·rw[g p om,g q om,if_neg (show ¬p=i by omega)]
  have le1:∀x,(∃k:Int,f<=k/\k<i+1/\x=gt L k)->le x (if q=i then gt L f else if q=f then gt L i else gt L q):=by
   rintro x ⟨k,k0,k1,rfl⟩;by_cases e:q=i
   ·rw[if_pos e];exact top k k0 k1
   ·rw[if_neg e,if_neg om]
    exact h.AD k q k0 k1 om q1
  by_cases e:p=f
  ·rw[if_pos e];exact le1 _ ⟨i,i0,om,rfl⟩
  ·rw[if_neg e];exact le1 _ ⟨p,p0,om,rfl⟩
theorem aG.dF{L M:List α}{f i b:Int}(f0:0<=f)(h:aG f i L M)(fi:f<=i)(up:aE le L i b)(AD:∀p q:Int,f<=p->p<i->i<=q->q<b->le (gt L p) (gt L q)) :
  aE le M i b/\∀p q:Int,f<=p->p<i->i<=q->q<b->le (gt M p) (gt M q):=by
 constructor
 ·intro p q p0 pq q1
  rw[h.out p om om,h.out q om om];exact up p q p0 pq q1
 ·intro p q p0 p1 q0 q1
  rw[h.out q om om];exact h.all (fun x=>le x (gt L q)) (fun k k0 k1=>AD k q k0 k1 q0 q1) p p0 p1
theorem aE.join{L:List α}{a m b:Int}(h1:aE le L a m)(h2:aE le L m b)(AD:∀p q:Int,a<=p->p<m->m<=q->q<b->le (gt L p) (gt L q)):aE le L a b:=by
 intro p q p0 pq q1;by_cases c1:q<m
 ·exact h1 p q p0 pq c1
 ·by_cases c2:p<m
  ·exact AD p q p0 c2 om q1
  ·exact h2 p q om pq q1
theorem aE.one{L:List α}{a b:Int}(h:b<=a+1):aE le L a b:=fun p q p0 pq q1=>om
end
section
variable{α:Type}[Inhabited α]{le:α->α->Prop}
structure Part(le:α->α->Prop)(L:List α)(a b i j:Int):Prop where
 i0:a<i
 j1:j<b
 ij:i<=j+1
 low:∀p:Int,a<p->p<i->le (gt L p) (gt L a)
 high:∀p:Int,j<p->p<b->le (gt L a) (gt L p)
theorem Part.start(L:List α){a b:Int}(h:a<b):Part le L a b (a+1) (b-1):=⟨om,om,om,fun p p0 p1=>om,fun p p0 p1=>om⟩
theorem Part.left{L:List α}{a b i j:Int}(h:Part le L a b i j)(c:i<=j)(w:le (gt L i) (gt L a)):Part le L a b (i+1) j:=
 ⟨by have:=h.i0;omega,h.j1,om,fun p p0 p1=>by
  by_cases e:p=i
  ·rw[e];exact w
  ·exact h.low p p0 om,h.high⟩
theorem Part.right{L:List α}{a b i j:Int}(h:Part le L a b i j)(c:i<=j)(w:le (gt L a) (gt L j)):Part le L a b i (j-1):=
 ⟨h.i0,by have:=h.j1;omega,om,h.low,fun p p0 p1=>by
  by_cases e:p=j
  ·rw[e];exact w
  ·exact h.high p om p1⟩
theorem Part.swap{L:List α}{a b i j:Int}(a0:0<=a)(hb:b<=L.length)(h:Part le L a b i j)(c:i<j)(w1:le (gt L a) (gt L i))(w2:le (gt L j) (gt L a)):Part le (dy L i j) a b (i+1) (j-1):=by
 have hi:=h.i0;have hj:=h.j1;have g:∀k:Int,0<=k->gt (dy L i j) k=if k=j then gt L i else if k=i then gt L j else gt L k:=fun k k0=>je L om om om om k0
 refine⟨om,om,om,fun p p0 p1=>?_,fun p p0 p1=>?_⟩
 ·rw[g p om,g a a0,if_neg (show ¬p=j by omega),if_neg (show ¬a=j by omega),if_neg (show ¬a=i by omega)]
  by_cases e:p=i
  ·rw[if_pos e];exact w2
  ·rw[if_neg e];exact h.low p p0 om
 ·rw[g p om,g a a0,if_neg (show ¬a=j by omega),if_neg (show ¬a=i by omega)]
  by_cases e:p=j
  ·rw[if_pos e];exact w1
  ·rw[if_neg e,if_neg om];exact h.high p om p1
theorem Part.done{L:List α}{a b i j:Int}(a0:0<=a)(hb:b<=L.length)(h:Part le L a b i j)(c:j<i) :
  (∀p:Int,a<=p->p<j->le (gt (dy L j a) p) (gt (dy L j a) j))/\(∀p:Int,j<p->p<b->le (gt (dy L j a) j) (gt (dy L j a) p)):=by
 have hi:=h.i0;have hj:=h.j1;have ij:=h.ij;have g:∀k:Int,0<=k->gt (dy L j a) k=if k=a then gt L j else if k=j then gt L a else gt L k:=fun k k0=>je L om om om om k0
 have gj:gt (dy L j a) j=gt L a:=by
  rw[g j om];by_cases e:j=a
  ·rw[if_pos e,e]
  ·rw[if_neg e,if_pos rfl]
 rw[gj];refine⟨fun p p0 p1=>?_,fun p p0 p1=>?_⟩
 ·rw[g p om]
  by_cases e:p=a
  ·rw[if_pos e];exact h.low j om om
  ·rw[if_neg e,if_neg om];exact h.low p om om
 ·rw[g p om,if_neg om,if_neg om]
  exact h.high p p0 p1
structure wN(le:α->α->Prop)(L:List α)(A B a b:Int):Prop where
 s1:aE le L A a
 s2:aE le L b B
 c1:∀p q:Int,A<=p->p<a->a<=q->q<B->le (gt L p) (gt L q)
 c2:∀p q:Int,A<=p->p<b->b<=q->q<B->le (gt L p) (gt L q)
 r0:A<=a
 r1:a<=b
 r2:b<=B
theorem wN.start(L:List α){A B:Int}(h:A<=B):wN le L A B A B:=⟨fun p q p0 pq q1=>om,fun p q p0 pq q1=>om,fun p q p0 p1 q0 q1=>om,fun p q p0 p1 q0 q1=>om,Int.le_refl _,h,Int.le_refl _⟩
theorem wN.perm{L M:List α}{A B a b:Int}(A0:0<=A)(h:wN le L A B a b)(k:aG a b L M):wN le M A B a b:=by
 have r0:=h.r0;have r1:=h.r1;refine⟨fun p q p0 pq q1=>?_,fun p q p0 pq q1=>?_,fun p q p0 p1 q0 q1=>?_,fun p q p0 p1 q0 q1=>?_,h.r0,h.r1,h.r2⟩
 ·rw[k.out p om om,k.out q om om]
  exact h.s1 p q p0 pq q1
 ·rw[k.out p om om,k.out q om om]
  exact h.s2 p q p0 pq q1
 ·rw[k.out p om om]
  by_cases c:q<b
  ·exact k.all (fun x=>le (gt L p) x) (fun j j0 j1=>h.c1 p j p0 p1 j0 (by have:=h.r2;omega)) q q0 c
  ·rw[k.out q om om]
   exact h.c1 p q p0 p1 q0 q1
 ·rw[k.out q om om]
  by_cases c:a<=p
  ·exact k.all (fun x=>le x (gt L q)) (fun j j0 j1=>h.c2 j q om j1 q0 q1) p c p1
  ·rw[k.out p om om]
   exact h.c2 p q p0 p1 q0 q1
theorem wN.done{L:List α}{A B a b:Int}(h:wN le L A B a b)(s:aE le L a b):aE le L A B:=by
 have r2:=h.r2;refine aE.join (aE.join h.s1 s (fun p q p0 p1 q0 q1=>h.c1 p q p0 p1 q0 om)) h.s2 (fun p q p0 p1 q0 q1=>h.c2 p q p0 p1 q0 q1)
theorem wN.left(hp:Lh le){L M:List α}{A B a b m:Int}(A0:0<=A)(h:wN le L A B a b)(am:a<=m)(mb:m<b)(h1:∀p:Int,a<=p->p<m->le (gt L p) (gt L m))(h2:∀p:Int,m<p->p<b->le (gt L m) (gt L p))(k:aG a m L M)(s:aE le M a m):wN le M A B (m+1) b:=by
 have r0:=h.r0;have r2:=h.r2;have kw:=k.wide (a:=a) (b:=b) om om om;have hM:=h.perm A0 kw;have m1:∀p:Int,a<=p->p<m->le (gt M p) (gt M m):=fun p p0 p1=>by
  rw[k.out m om om];exact k.all (fun x=>le x (gt L m)) (fun j j0 j1=>h1 j j0 j1) p p0 p1
 have m2:∀q:Int,m<q->q<B->le (gt M m) (gt M q):=fun q q0 q1=>by
  by_cases c:q<b
  ·rw[k.out m om om,k.out q om om]
   exact h2 q q0 c
  ·exact hM.c2 m q om mb om q1
 refine⟨?_,hM.s2,fun p q p0 p1 q0 q1=>?_,hM.c2,om,om,h.r2⟩
 ·refine aE.join (m:=a) hM.s1 (aE.join (m:=m) s (aE.one om) (fun p q p0 p1 q0 q1=>?_)) (fun p q p0 p1 q0 q1=>hM.c1 p q p0 p1 q0 om)
  rw[show q=m by omega];exact m1 p p0 p1
 ·by_cases c:p<a
  ·exact hM.c1 p q p0 c om q1
  ·by_cases e:p=m
   ·rw[e];exact m2 q om q1
   ·exact hp.trans _ _ _ (m1 p om om) (m2 q om q1)
theorem wN.right(hp:Lh le){L M:List α}{A B a b m:Int}(A0:0<=A)(h:wN le L A B a b)(am:a<=m)(mb:m<b)(h1:∀p:Int,a<=p->p<m->le (gt L p) (gt L m))(h2:∀p:Int,m<p->p<b->le (gt L m) (gt L p))(k:aG (m+1) b L M)(s:aE le M (m+1) b):wN le M A B a m:=by
 have r0:=h.r0;have r2:=h.r2;have kw:=k.wide (a:=a) (b:=b) om om om;have hM:=h.perm A0 kw;have m2:∀q:Int,m<q->q<b->le (gt M m) (gt M q):=fun q q0 q1=>by
  rw[k.out m om om];exact k.all (fun x=>le (gt L m) x) (fun j j0 j1=>h2 j om j1) q om q1
 have m1:∀p:Int,A<=p->p<m->le (gt M p) (gt M m):=fun p p0 p1=>by
  by_cases c:a<=p
  ·rw[k.out m om om,k.out p om om]
   exact h1 p c p1
  ·exact hM.c1 p m p0 om am om
 have c3:∀p q:Int,A<=p->p<=m->m<q->q<B->le (gt M p) (gt M q):=fun p q p0 p1 q0 q1=>by
  by_cases c:q<b
  ·by_cases e:p=m
   ·rw[e];exact m2 q q0 c
   ·exact hp.trans _ _ _ (m1 p p0 om) (m2 q q0 c)
  ·exact hM.c2 p q p0 om om q1
 refine⟨hM.s1,?_,hM.c1,fun p q p0 p1 q0 q1=>?_,om,om,om⟩
 ·refine aE.join (m:=m+1) (aE.one om) (aE.join (m:=b) s hM.s2 (fun p q p0 p1 q0 q1=>hM.c2 p q om p1 q0 q1)) (fun p q p0 p1 q0 q1=>?_)
  exact c3 p q om om om q1
 ·by_cases e:q=m
  ·rw[e];exact m1 p p0 p1
  ·exact c3 p q p0 om om q1
theorem wN.equal{L:List α}{A B a b m:Int}(h:wN le L A B a b)(am:a<=m)(mb:m<=b)(e:∀p q:Int,a<=p->p<m->a<=q->q<b->le (gt L p) (gt L q)):wN le L A B m b:=by
 have r0:=h.r0;have r2:=h.r2;refine⟨aE.join (m:=a) h.s1 (fun p q p0 pq q1=>e p q p0 om om om) (fun p q p0 p1 q0 q1=>h.c1 p q p0 p1 q0 om),h.s2,fun p q p0 p1 q0 q1=>?_,h.c2,om,om,h.r2⟩;by_cases c:p<a
 ·exact h.c1 p q p0 c om q1
 ·by_cases d:q<b
  ·exact e p q om p1 om d
  ·exact h.c2 p q p0 om om q1
end
structure Bx(Q:Prop):Prop where o:Q
theorem zc{P Q:Prop}(k:Q)(h:Bx Q->P:=by intro q;(try (conv=>cbv));(repeat (refine Ly hA ?_;(try (conv=>cbv))));exact q.o):P:=h ⟨k⟩
theorem zq{P Q:Prop}(k:Q)(h:Bx Q->P:=by intro q;((try (conv=>cbv));repeat ((first|refine Ly hA ?_|refine⟨kF hA om om,?_⟩|refine⟨_,_,rfl,kF hA om om,?_⟩|refine⟨dA hA om,?_⟩|refine⟨ff hA om,?_⟩|refine⟨R0 hA om,?_⟩|refine⟨wO hA (by assumption),?_⟩|refine⟨wO hA (.refl _),?_⟩|refine⟨_,‹rd _ _ _ _ _›,?_⟩|refine⟨_,_,‹rd _ _ _ _ _›,?_⟩|refine⟨_,_,_,‹rd _ _ _ _ _›,?_⟩|refine⟨_,_,_,_,‹rd _ _ _ _ _›,?_⟩|refine⟨_,‹wr _ _ _ _ _›,?_⟩);(try (conv=>cbv))));exact q.o):P:=h ⟨k⟩
structure AP(F:bg)(A:bI):Prop extends AOK progU hint F A where
 alike:∀g args h,own g=false->F g args h=rS g args h
def sat(s:ByteArray)(i:Int):Int:=((s[i.toNat]?).getD 0).toNat
theorem wP{x:Int}(h1:0<=x)(h2:x<18446744073709551616):IntKind.wrap .u64 x=x:=by
 unfold IntKind.wrap;simp[IntKind.bits,IntKind.signed,IntKind.min,IntKind.max];omega
theorem nF(x:Int):IntKind.wrap .u64 x=x % 18446744073709551616:=by
 unfold IntKind.wrap;simp[IntKind.bits,IntKind.signed,IntKind.min,IntKind.max];try omega
theorem ofInt64{a:Int}(h0:0<=a)(h1:a<18446744073709551616):(BitVec.ofInt 64 a).toNat=a.toNat:=by
 rw[BitVec.toNat_ofInt]
 congr 1
 omega
theorem We{a b:Int}(h0:0<=a)(h1:a<18446744073709551616)(g0:0<=b)(g1:b<18446744073709551616):(BitVec.ofInt 64 a &&& BitVec.ofInt 64 b).toNat=a.toNat &&& b.toNat:=by
 rw[BitVec.toNat_and,ofInt64 h0 h1,ofInt64 g0 g1]
theorem aac{a b:Int}(h0:0<=a)(h1:a<18446744073709551616)(g0:0<=b)(g1:b<18446744073709551616):(BitVec.ofInt 64 a ||| BitVec.ofInt 64 b).toNat=a.toNat ||| b.toNat:=by
 rw[BitVec.toNat_or,ofInt64 h0 h1,ofInt64 g0 g1]
theorem _root_.Go.cL.Ext.Bq{h h1 h2:af}(e:Ext h h2)(e1:Ext h h1)(hl:h.low<=h.next):Ext h (h2.aw h1.low):=by
 have a:=e.vK;have b:=e1.vK;have c:=e.low hl;refine⟨e.next,fun _=>?_,?_,e.get⟩
 ·show Nat.min h1.low h2.low<=h2.next
  have:Nat.min h1.low h2.low<=h2.low:=Nat.min_le_right _ _;omega
 ·show Nat.min h.low h.next<=Nat.min h1.low h2.low
  exact Nat.le_min.2 ⟨b,a⟩
theorem Dj(h:af)(n:Nat){b:Nat}(hb:h.next<=b)(es:Nat)(cs:List Value):Ext h ((h.aH n).putAt b es cs):=
 ⟨by simp[af.aH,af.putAt],fun l=>by simp only[af.aH,af.putAt];omega,by simp only[af.aH,af.putAt];exact Nat.min_le_left _ _,fun i hi=>by
  simp only[af.aH,af.putAt];rw[cQ.aK _ _ om]⟩
theorem ph{α:Type}{enc:α->List Value}(fz:∀x,(enc x).all aD=true)(l:List α):(l.flatMap enc).all aD=true:=by
 rw[List.all_flatMap];simp only[fz,List.all_eq_true,implies_true]
set_option maxRecDepth 100000
theorem Jv{a b:Nat}(h:a≠b):Nat.beq a b=false:=by
 cases q:Nat.beq a b with
 |false=>rfl
 |true=>exact absurd (Nat.eq_of_beq_eq_true q) h
end Go.Proofs.Ytdpbiegfljmhmaa
namespace Go.Proofs.Ytdpbiegfljmhmaa.Ext
abbrev aN:=Nat->Int
abbrev Om:=List Bool->Int
def aX:Nat->aN->Om->Om
 |0,_,_,_=>0
 |_+1,_,_,[]=>0
 |m+1,v,w,false :: I=>aX m v (fun J=>w (false :: J)) I
 |m+1,v,w,true :: I=>v m*w (false :: I)-aX m v (fun J=>w (true :: J)) I
theorem mh:∀(m:Nat) {u v:aN} (w:Om) (I:List Bool),(∀i,i<m->u i=v i)->aX m u w I=aX m v w I
 |0,_,_,_,_,_=>rfl
 |_+1,_,_,_,[],_=>rfl
 |m+1,u,v,w,false :: I,h=>mh m _ I (fun i hi=>h i om)
 |m+1,u,v,w,true :: I,h=>by
  show u m*_-aX m u _ I=v m*_-aX m v _ I;rw[mh m _ I (fun i hi=>h i om),h m om]
theorem iJ:∀(m:Nat) (v:aN) (I:List Bool),aX m v (fun _=>0) I=0
 |0,_,_=>rfl
 |_+1,_,[]=>rfl
 |m+1,v,false :: I=>iJ m v I
 |m+1,v,true :: I=>by
  show v m*0-aX m v (fun _=>0) I=0;rw[iJ m v I];omega
theorem iO:∀(m:Nat) (v:aN) (a b:Int) (w z:Om) (I:List Bool),aX m v (fun J=>a*w J+b*z J) I=a*aX m v w I+b*aX m v z I
 |0,v,a,b,w,z,I=>by show(0:Int)=a*0+b*0;omega
 |_+1,v,a,b,w,z,[]=>by show(0:Int)=a*0+b*0;omega
 |m+1,v,a,b,w,z,false :: I=>iO m v a b _ _ I
 |m+1,v,a,b,w,z,true :: I=>by
  show v m*(a*w (false :: I)+b*z (false :: I))-aX m v (fun J=>a*w (true :: J)+b*z (true :: J)) I=a*(v m*w (false :: I)-aX m v (fun J=>w (true :: J)) I)+b*(v m*z (false :: I)-aX m v (fun J=>z (true :: J)) I);rw[iO m v a b _ _ I];grind
theorem mQ:∀(m:Nat) (u v:aN) (a b:Int) (w:Om) (I:List Bool),aX m (fun i=>a*u i+b*v i) w I=a*aX m u w I+b*aX m v w I
 |0,u,v,a,b,w,I=>by show(0:Int)=a*0+b*0;omega
 |_+1,u,v,a,b,w,[]=>by show(0:Int)=a*0+b*0;omega
 |m+1,u,v,a,b,w,false :: I=>mQ m u v a b _ I
 |m+1,u,v,a,b,w,true :: I=>by
  show(a*u m+b*v m)*w (false :: I)-aX m (fun i=>a*u i+b*v i) _ I=a*(u m*w (false :: I)-aX m u _ I)+b*(v m*w (false :: I)-aX m v _ I);rw[mQ m u v a b _ I];grind
theorem kX:∀(m:Nat) (v:aN) (w:Om) (I:List Bool),aX m v (aX m v w) I=0
 |0,_,_,_=>rfl
 |_+1,_,_,[]=>rfl
 |m+1,v,w,false :: I=>kX m v (fun J=>w (false :: J)) I
 |m+1,v,w,true :: I=>by
  show v m*aX m v (fun J=>w (false :: J)) I-aX m v (fun J=>v m*w (false :: J)-aX m v (fun K=>w (true :: K)) J) I=0;have e:(fun J=>v m*w (false :: J)-aX m v (fun K=>w (true :: K)) J)=(fun J=>v m*w (false :: J)+(-1)*aX m v (fun K=>w (true :: K)) J):=by funext J;omega
  rw[e,iO m v (v m) (-1) (fun J=>w (false :: J)) (aX m v (fun K=>w (true :: K))) I,kX m v _ I];omega
theorem wQ(m:Nat)(u v:aN)(w:Om)(I:List Bool):aX m u (aX m v w) I=-aX m v (aX m u w) I:=by
 have h:=kX m (fun i=>1*u i+1*v i) w I;have e:aX m (fun i=>1*u i+1*v i) w=fun J=>1*aX m u w J+1*aX m v w J:=by funext J;exact mQ m u v 1 1 w J
 rw[e,mQ m u v 1 1,iO m u 1 1 (aX m u w) (aX m v w) I,iO m v 1 1 (aX m u w) (aX m v w) I,kX,kX]at h;omega
def unit:Om:=fun I=>if I.all (fun b=>!b)then 1 else 0
def prod(m:Nat)(W:Nat->aN):Nat->Om
 |0=>unit
 |k+1=>aX m (W k) (prod m W k)
def top(m:Nat):List Bool:=List.replicate m true
def vol(m:Nat)(W:Nat->aN):Int:=prod m W m (top m)
def put(W:Nat->aN)(i:Nat)(a:aN):Nat->aN:=fun k=>if k=i then a else W k
theorem fK{m:Nat}{W V:Nat->aN}:∀(k:Nat),(∀j,j<k->∀i,i<m->W j i=V j i)->prod m W k=prod m V k
 |0,_=>rfl
 |k+1,h=>by
  funext I
  show aX m (W k) (prod m W k) I=aX m (V k) (prod m V k) I;rw[fK k (fun j hj=>h j om),mh m _ I (h k om)]
theorem wR{m:Nat}{W:Nat->aN}{k:Nat}:∀(d:Nat) (I:List Bool),aX m (W k) (prod m W (k+1+d)) I=0
 |0,I=>kX m (W k) (prod m W k) I
 |d+1,I=>by
  show aX m (W k) (aX m (W (k+1+d)) (prod m W (k+1+d))) I=0;rw[wQ];have e:aX m (W k) (prod m W (k+1+d))=fun _=>0:=by funext J;exact wR d J
  rw[e,iJ];rfl
theorem AE{m:Nat}{W:Nat->aN}{k:Nat}(h:prod m W k=fun _=>0):∀d,prod m W (k+d)=fun _=>0
 |0=>h
 |d+1=>by
  funext I
  show aX m (W (k+d)) (prod m W (k+d)) I=0;rw[AE h d,iJ]
theorem Dk{m:Nat}{W:Nat->aN}{i:Nat}{a b:aN}{x y:Int}:∀(d:Nat),prod m (put W i (fun r=>x*a r+y*b r)) (i+1+d)=fun I=>x*prod m (put W i a) (i+1+d) I+y*prod m (put W i b) (i+1+d) I
 |0=>by
  have pre:∀c,prod m (put W i c) i=prod m W i:=fun c=>fK i (fun j hj r hr=>by unfold put;rw[if_neg om])
  funext I
  show aX m (put W i (fun r=>x*a r+y*b r) i) (prod m (put W i (fun r=>x*a r+y*b r)) i) I=x*aX m (put W i a i) (prod m (put W i a) i) I+y*aX m (put W i b i) (prod m (put W i b) i) I;rw[pre,pre,pre];have e:∀c,put W i c i=c:=fun c=>by unfold put;rw[if_pos rfl]
  rw[e,e,e,mQ]
 |d+1=>by
  funext I
  show aX m (put W i (fun r=>x*a r+y*b r) (i+1+d)) (prod m (put W i (fun r=>x*a r+y*b r)) (i+1+d)) I=x*aX m (put W i a (i+1+d)) (prod m (put W i a) (i+1+d)) I+y*aX m (put W i b (i+1+d)) (prod m (put W i b) (i+1+d)) I;have e:∀c,put W i c (i+1+d)=W (i+1+d):=fun c=>by unfold put;rw[if_neg om]
  rw[e,e,e,Dk d,iO]
def aT(f:Nat->Int):Nat->Int
 |0=>0
 |k+1=>aT f k+f k
theorem aO{f g:Nat->Int}:∀(n:Nat),(∀k,k<n->f k=g k)->aT f n=aT g n
 |0,_=>rfl
 |n+1,h=>by show aT f n+f n=aT g n+g n;rw[aO n (fun k hk=>h k om),h n om]
theorem jW(c:Int)(f:Nat->Int):∀n,aT (fun k=>c*f k) n=c*aT f n
 |0=>by show(0:Int)=c*0;omega
 |n+1=>by show aT (fun k=>c*f k) n+c*f n=c*(aT f n+f n);rw[jW c f n,Int.mul_add]
theorem sL(f g:Nat->Int):∀n,aT (fun k=>f k+g k) n=aT f n+aT g n
 |0=>rfl
 |n+1=>by show aT (fun k=>f k+g k) n+(f n+g n)=aT f n+f n+(aT g n+g n);rw[sL f g n];omega
theorem pt{f:Nat->Int}{i:Nat}:∀(n:Nat),i<n->(∀k,k<n->k≠i->f k=0)->aT f n=f i
 |0,h,_=>om
 |n+1,h,z=>by
  show aT f n+f n=f i;by_cases e:i=n
  ·subst e
   rw[aO (g:=fun _=>0) i (fun k hk=>z k om om)];have:∀n,aT (fun _=>0) n=0:=fun n=>by induction n with|zero=>rfl|succ n ih=>show aT _ n+0=0;rw[ih];rfl
   rw[this];omega
  ·rw[pt n om (fun k hk=>z k om),z n om om];omega
theorem jf{W:Nat->aN}{i:Nat}:put W i (W i)=W:=by
 funext k;unfold put;split
 ·rename_i e;rw[e]
 ·rfl
def E(i:Nat):aN:=fun r=>if r=i then 1 else 0
theorem wS{m:Nat}{W:Nat->aN}:∀(k:Nat),(∀j,j<k->W j m=0)->(∀I,prod (m+1) W k (false :: I)=prod m W k I)/\(∀I,prod (m+1) W k (true :: I)=0)
 |0,_=>⟨fun I=>rfl,fun I=>rfl⟩
 |k+1,h=>by
  obtain⟨h1,h2⟩:=wS k (fun j hj=>h j om);have e1:(fun J=>prod (m+1) W k (false :: J))=prod m W k:=funext h1;have e2:(fun J=>prod (m+1) W k (true :: J))=fun _=>0:=funext h2
  constructor
  ·intro I
   show aX m (W k) (fun J=>prod (m+1) W k (false :: J)) I=aX m (W k) (prod m W k) I;rw[e1]
  ·intro I
   show W k m*prod (m+1) W k (false :: I)-aX m (W k) (fun J=>prod (m+1) W k (true :: J)) I=0;rw[e2,iJ,h k om];omega
theorem Dm:∀m,vol m E=1
 |0=>rfl
 |m+1=>by
  obtain⟨h1,h2⟩:=wS (m:=m) (W:=E) m (fun j hj=>by unfold E;rw[if_neg om]);have e2:(fun J=>prod (m+1) E m (true :: J))=fun _=>0:=funext h2
  show E m m*prod (m+1) E m (false :: top m)-aX m (E m) (fun J=>prod (m+1) E m (true :: J)) (top m)=1;rw[e2,iJ,h1];have:prod m E m (top m)=1:=Dm m;rw[this];unfold E;rw[if_pos rfl];rfl
def vn:Nat->aN->Nat
 |0,_=>0
 |m+1,v=>vn m v+(v m).natAbs
def gH(v:aN):Nat->Nat->Nat
 |0,k=>k
 |f+1,k=>if v k≠0 then k else gH v f (k+1)
def aj(w:Nat)(v:aN):Nat:=gH v w 0
theorem jR(v:aN):∀(f k:Nat),k<=gH v f k/\gH v f k<=k+f/\(∀j,k<=j->j<gH v f k->v j=0)/\(gH v f k<k+f->v (gH v f k)≠0)
 |0,k=>⟨Nat.le_refl _,Nat.le_refl _,fun j h1 h2=>by simp only[gH]at h2;omega,fun h=>by simp only[gH]at h;omega⟩
 |f+1,k=>by
  by_cases c:v k≠0
  ·have e:gH v (f+1) k=k:=by show(if v k≠0 then k else _)=k;rw[if_pos c]
   rw[e];exact⟨Nat.le_refl _,om,fun j h1 h2=>om,fun _=>c⟩
  ·have e:gH v (f+1) k=gH v f (k+1):=by show(if v k≠0 then k else _)=_;rw[if_neg c]
   rw[e];obtain⟨h1,h2,h3,h4⟩:=jR v f (k+1);refine⟨om,om,fun j j1 j2=>?_,fun h=>h4 om⟩;by_cases e2:j=k
   ·subst e2;exact Classical.not_not.1 c
   ·exact h3 j om j2
theorem mR(w:Nat)(v:aN):aj w v<=w:=by have:=(jR v w 0).2.1;unfold aj;omega
theorem bD{w:Nat}{v:aN}{j:Nat}(h:j<aj w v):v j=0:=(jR v w 0).2.2.1 j (Nat.zero_le _) h
theorem lg{w:Nat}{v:aN}(h:aj w v<w):v (aj w v)≠0:=(jR v w 0).2.2.2 (by unfold aj at h;omega)
theorem iC{w c:Nat}{v:aN}(hc:c<=w)(hz:∀j,j<c->v j=0)(hn:c<w->v c≠0):aj w v=c:=by
 rcases Nat.lt_trichotomy (aj w v) c with h|h|h
 ·exact absurd (hz _ h) (lg om)
 ·exact h
 ·exact absurd (bD h) (hn (by have:=mR w v;omega))
def Sp(w k:Nat)(F:Nat->aN)(v:aN):Prop:=∃y:Nat->Int,∀j,j<w->v j=aT (fun i=>y i*F i j) k
theorem Sp.congr{w k:Nat}{F:Nat->aN}{u v:aN}(h:Sp w k F u)(e:∀j,j<w->u j=v j):Sp w k F v:=by
 obtain⟨y,hy⟩:=h;exact⟨y,fun j hj=>by rw[<-e j hj];exact hy j hj⟩
theorem mS(n:Nat):aT (fun _=>0) n=0:=by induction n with|zero=>rfl|succ n ih=>show aT _ n+0=0;rw[ih];rfl
theorem Sp.row{w k:Nat}(F:Nat->aN){i:Nat}(hi:i<k):Sp w k F (F i):=by
 refine⟨fun j=>if j=i then 1 else 0,fun j _=>?_⟩;show F i j=aT (fun m=>(if m=i then 1 else 0)*F m j) k;rw[pt (i:=i) k hi (fun m _ hm=>by show(if m=i then 1 else 0)*F m j=0;rw[if_neg hm];omega)];show F i j=(if i=i then 1 else 0)*F i j;rw[if_pos rfl];omega
theorem Sp.zero(w k:Nat)(F:Nat->aN):Sp w k F (fun _=>0):=⟨fun _=>0,fun j _=>by
 show(0:Int)=aT (fun i=>0*F i j) k;rw[aO (g:=fun _=>0) k (fun i _=>by show 0*F i j=0;omega),mS]⟩
theorem Sp.comb{w k:Nat}{F:Nat->aN}{u v:aN}(a b:Int)(hu:Sp w k F u)(hv:Sp w k F v):Sp w k F (fun j=>a*u j+b*v j):=by
 obtain⟨y,hy⟩:=hu;obtain⟨z,hz⟩:=hv;refine⟨fun i=>a*y i+b*z i,fun j hj=>?_⟩;show a*u j+b*v j=aT (fun i=>(a*y i+b*z i)*F i j) k;rw[hy j hj,hz j hj,<-jW,<-jW,<-sL];exact aO k (fun i _=>by rw[Int.add_mul,Int.mul_assoc,Int.mul_assoc])
theorem Sp.sum{w k:Nat}{F:Nat->aN}(y:Nat->Int)(G:Nat->aN):∀n,(∀i,i<n->Sp w k F (G i))->Sp w k F (fun j=>aT (fun i=>y i*G i j) n)
 |0,_=>Sp.zero w k F
 |n+1,h=>(Sp.comb 1 (y n) (Sp.sum y G n (fun i hi=>h i om)) (h n om)).congr (fun j _=>by show 1*aT (fun i=>y i*G i j) n+y n*G n j=aT (fun i=>y i*G i j) n+y n*G n j;omega)
theorem Sp.le{w k k':Nat}{F F':Nat->aN}(h:∀i,i<k'->Sp w k F (F' i)){v:aN}(hv:Sp w k' F' v):Sp w k F v:=by
 obtain⟨y,hy⟩:=hv;exact(Sp.sum y F' k' h).congr (fun j hj=>(hy j hj).symm)
structure FO(w k:Nat)(F:Nat->aN):Prop where
 lt:∀i,i<k->aj w (F i)<w
 pos:∀i,i<k->0<F i (aj w (F i))
 inc:∀i j,i<j->j<k->aj w (F i)<aj w (F j)
 red:∀i j,i<j->j<k->0<=F i (aj w (F j))/\F i (aj w (F j))<F j (aj w (F j))
structure Br(w k:Nat)(F:Nat->aN):Prop where
 lt:∀i,i<k->aj w (F i)<w
 pos:∀i,i<k->0<F i (aj w (F i))
 inc:∀i j,i<j->j<k->aj w (F i)<aj w (F j)
theorem FO.gD{w k:Nat}{F:Nat->aN}(h:FO w k F):Br w k F:=⟨h.lt,h.pos,h.inc⟩
theorem Jw{f:Nat->Int}{i:Nat}:∀(n:Nat),i<n->(∀k,k<i->f k=0)->(∀k,i<k->k<n->f k=0)->aT f n=f i
 |n,h,z1,z2=>pt n h (fun k hk dS=>by rcases Nat.lt_or_gt_of_ne dS with q|q;exact z1 k q;exact z2 k q hk)
theorem PH{p:Nat->Nat}{k:Nat}(h:∀i j,i<j->j<k->p i<p j){i j:Nat}(hi:i<k)(hj:j<k)(e:p i=p j):i=j:=by
 rcases Nat.lt_trichotomy i j with q|q|q
 ·have:=h i j q hj;omega
 ·exact q
 ·have:=h j i q hi;omega
end Go.Proofs.Ytdpbiegfljmhmaa.Ext
namespace Go.Proofs.Ytdpbiegfljmhmaa
open Go.cL
set_option maxRecDepth 100000
theorem Tf:Try.prog.eqGuardType Try.prog.depth 45=false:=by kernel_rfl
theorem eqF(a b a' b':Int):∃r,oZ Try.prog 30 45 (.agg #[.int .i64 a,.int .i64 b]) (.agg #[.int .i64 a',.int .i64 b'])=some r/\(r=true↔a=a'/\b=b'):=by
 have h3:Try.prog.underlying 2=some (.int .i64):=by kernel_rfl
 have uj:Try.prog.stoodInHeld 45=false:=by kernel_rfl
 have i3:iK Try.prog 2=some false:=by kernel_rfl
 have e3:∀(n:Nat) (x y:Int),oZ Try.prog (n+1) 2 (.int .i64 x) (.int .i64 y)=some (x == y):=by
  intro n x y;unfold oZ;rw[h3];simp
 have key:oZ Try.prog (28+1+1) 45 (.agg #[.int .i64 a,.int .i64 b]) (.agg #[.int .i64 a',.int .i64 b'])=some ((a == a') && (b == b')):=by
  unfold oZ;rw[Try.underlying45];have Pm:∀(x y:Int),oZ Try.prog 29 2 (.int .i64 x) (.int .i64 y)=some (x == y):=e3 28;simp only[uj,cond_false,List.foldr,kG,i3,List.getElem?_cons_zero,List.getElem?_cons_succ,Pm,String.reduceEq,if_false];cases a == a'<;>cases b == b'<;>rfl
 refine⟨_,key,?_⟩;simp only[Bool.and_eq_true,beq_iff_eq]
theorem Gc:Try.prog.eqGuardType Try.prog.depth 73=false:=by kernel_rfl
theorem eqB(a b c d:Int):∃r,oZ Try.prog 30 73 (.agg #[.int .u64 a,.int .u64 b,.int .u64 c,.int .u64 d]) (.agg #[.int .u64 0,.int .u64 0,.int .u64 0,.int .u64 0])=some r/\(r=true↔a=0/\b=0/\c=0/\d=0):=by
 have h3:Try.prog.underlying 69=some (.int .u64):=by kernel_rfl
 have h4:Try.prog.underlying 71=some (.array 4 69):=by kernel_rfl
 have uj:Try.prog.stoodInHeld 73=false:=by kernel_rfl
 have i3:iK Try.prog 69=some false:=by kernel_rfl
 have i4:iK Try.prog 71=some true:=by kernel_rfl
 have s3:bY Try.prog 69=some 1:=by kernel_rfl
 have s4:bY Try.prog 71=some 4:=by kernel_rfl
 have e3:∀(n:Nat) (x y:Int),oZ Try.prog (n+1) 69 (.int .u64 x) (.int .u64 y)=some (x == y):=by
  intro n x y;unfold oZ;rw[h3];simp
 have e4:oZ Try.prog (28+1) 71 (.agg #[.int .u64 a,.int .u64 b,.int .u64 c,.int .u64 d]) (.agg #[.int .u64 0,.int .u64 0,.int .u64 0,.int .u64 0])=some ((a == 0) && ((b == 0) && ((c == 0) && (d == 0)))):=by
  unfold oZ;rw[h4];have Pm:∀(x y:Int),oZ Try.prog 28 69 (.int .u64 x) (.int .u64 y)=some (x == y):=e3 27;simp only[s3,List.range,List.range.loop,List.foldr,kG,i3,List.getElem?_cons_zero,List.getElem?_cons_succ,Pm,Nat.mul_one];cases a == 0<;>cases b == 0<;>cases c == 0<;>cases d == 0<;>rfl
 have key:oZ Try.prog (28+1+1) 73 (.agg #[.int .u64 a,.int .u64 b,.int .u64 c,.int .u64 d]) (.agg #[.int .u64 0,.int .u64 0,.int .u64 0,.int .u64 0])=some ((a == 0) && ((b == 0) && ((c == 0) && (d == 0)))):=by
  unfold oZ;rw[Try.underlying73];have r4:∀w x y z:Value,jX [w,x,y,z] 0 4=some [w,x,y,z]:=fun _ _ _ _=>rfl
  simp only[uj,cond_false,List.foldr,kG,i4,s4,r4,String.reduceEq,if_false];rw[show(29:Nat)=28+1 from rfl,e4];cases((a == 0) && ((b == 0) && ((c == 0) && (d == 0))))<;>rfl
 refine⟨_,key,?_⟩;simp only[Bool.and_eq_true,beq_iff_eq]
end Go.Proofs.Ytdpbiegfljmhmaa
namespace Go.cL
theorem Cells.part{h:af}{a:Option Addr}{n es:Nat}{cells:List Value}(c:Cells h a n es cells){i m:Nat}(hi:i+m<=n):Cells h (a.map (fV · (i*es))) m es ((cells.drop (i*es)).take (m*es)):=by
 have hlen:=c.length;have hm:i*es+m*es<=n*es:=by rw[<-Nat.add_mul];exact Nat.mul_le_mul_right es hi
 cases a with
 |none=>
  obtain⟨rfl,rfl⟩:=c;exact⟨om,by simp⟩
 |some ad=>
  obtain⟨h1,h2,h3⟩:=c;obtain⟨b,o,sp⟩:=ad;simp only at h1;subst h1;refine⟨rfl,h2,?_⟩;unfold af.aL fV at *;simp only[]at h3 ⊢;split at h3
  ·rename_i cs Bs
   obtain⟨e1,e2⟩:=Dp h3;refine rT ?_ ?_
   ·subst e1
    rw[List.drop_take,List.take_take,List.drop_drop,Nat.min_eq_left om]
   ·simp only[List.length_take,List.length_drop];omega
  ·cases h3
theorem Cells.head{h:af}{a:Option Addr}{n es:Nat}{cells:List Value}(c:Cells h a n es cells){m:Nat}(hm:m<=n):Cells h a m es (cells.take (m*es)):=by
 have:=c.part (i:=0) (m:=m) om;rw[Nat.zero_mul,List.drop_zero]at this;cases a with
 |none=>exact this
 |some ad=>exact this
theorem Gd{α:Type}{enc:α->List Value}{es:Nat}(he:∀x,(enc x).length=es)(l:List α)(k:Nat):(l.flatMap enc).take (k*es)=(l.take k).flatMap enc:=by
 induction l generalizing k with
 |nil=>simp
 |cons x l ih=>
  cases k with
  |zero=>simp
  |succ k=>rw[List.flatMap_cons,List.take_succ_cons,List.flatMap_cons,List.take_append,he,List.take_of_length_le (by rw[he,Nat.succ_mul];omega),show(k+1)*es-es=k*es by rw[Nat.succ_mul];omega,ih]
def uk(P:Program)(h:af)(e es:Nat)(a:Option Addr)(n c:Nat)(news:List Value):Prop:=jC P h e es false (.slice a n c)=some (n,news)/\news.length=n*es
theorem uk.of{P:Program}{h:af}{e es:Nat}{a:Option Addr}{n:Nat}{news:List Value}(c:Nat)(hs:Cells h a n es news):uk P h e es a n c news:=by
 refine⟨?_,hs.length⟩;unfold jC;simp only[cond_false];cases a with
 |none=>obtain⟨rfl,rfl⟩:=hs;simp
 |some ad=>
  obtain⟨h1,h2,h3⟩:=hs;simp only[h3]
theorem uk.nothing(P:Program)(h:af)(e es:Nat)(x c:Nat):uk P h e es (some ⟨0,0,some x⟩) 0 c []:=by
 refine⟨?_,by simp⟩;unfold jC af.aL;rfl
theorem Dq{P:Program}{t t2 e es:Nat}(hT:fW P t e es)(Jx:P.underlying t2=some (.slice e)){h:af}{b n c n2 c2:Nat}{a2:Option Addr}{cells news:List Value}(hp:Ge h es b n c cells)(hs:uk P h e es a2 n2 c2 news)(fz:cells.all aD=true)(rp:news.all aD=true)(um:n+n2<=1000000) :
  ∃b' c' h',cO P h [t,t2] [.slice (some ⟨b,0,none⟩) n c,.slice a2 n2 c2]=some (.slice (some ⟨b',0,none⟩) (n+n2) c',h')/\Ge h' es b' (n+n2) c' (cells++news)/\h.next<=h'.next/\(b'=b\/h.next<=b')/\(∀j,j<h.next->j≠b->h'.m.get j=h.m.get j)/\(∀h0,Ext h0 h->h0.next<=b->Ext h0 h'/\h0.next<=b'):=by
 obtain⟨ho,hb,hl,hc⟩:=hp;obtain⟨by_,rF,nG⟩:=hT.bytes;obtain⟨z,hz,zG⟩:=hT.zero;obtain⟨gP,sM⟩:=hs;have Jy:cM c=n:=by
  rcases hc with ⟨rfl,rfl⟩|rfl
  ·rfl
  ·exact ct (by unfold aS;omega)
 unfold cO;simp only[hT.wT,hT.size,rF,Jx,hz,cV,gP];rw[Jy];by_cases h0:n2=0
 ·subst h0
  have:news=[]:=by simpa using sM
  subst this;obtain⟨h',hw,mD,pv⟩:=ho.write (o:=n*es) (vs:=[]) (by simp;omega);have Wf:h.iu (fV ⟨b,0,none⟩ (n*es)) []=some h':=by
   unfold af.iu fV;simp only[List.all_nil,cond_true,Nat.zero_add];exact hw
  rw[bz (show n+0<=n by omega)];simp only[cond_true,Wf];have e2:cells.take (n*es)++([]++cells.drop (n*es+([]:List Value).length))=cells:=by simp
  rw[e2]at mD;exact⟨b,c,h',rfl,⟨by simpa using mD,by rw[pv.next];exact hb,by simpa using hl,hc⟩,by rw[pv.next];exact Nat.le_refl _,.inl rfl,fun j _ j1=>pv.get j j1,fun h0 e0 nE=>⟨pv.ext e0 nE,nE⟩⟩
 ·rw[eQ om]
  simp only[cond_false];rw[bz (show n+n2<=1073741824 by omega),bz nG,rp,zG,sM];simp only[Bool.and_self,Nat.beq_refl,cond_true];have hr:h.aL ⟨b,0,none⟩ (n*es)=some cells:=by rw[ho.aL om];simp[<-hl]
  simp only[hr];rcases hc with ⟨rfl,rfl⟩|rfl
  ·rw[dU (show 0<aS by unfold aS;omega),fz]
   simp only[cond_true];refine⟨_,_,_,rfl,⟨aJ.push _ _ _,by simp[af.push],by simp[hl,sM],.inr rfl⟩,by simp[af.push],.inr (Nat.le_refl _),fun j j0 _=>(Ext.push h es _).get j j0,fun h0 e0 nE=>⟨e0.trans (.push _ _ _),e0.next⟩⟩
  ·rw[cT (dr es n),fz]
   simp only[cond_false,cond_true];rw[show h.m.get b=some (.live true es cells)from ho];simp only[Nat.beq_refl,cond_true];refine⟨_,_,_,rfl,⟨aJ.push (h.kill b) es _,by simp[af.push,af.kill],by simp[hl,sM,Nat.add_mul],.inr rfl⟩,by simp[af.push,af.kill],.inr (Nat.le_refl _),fun j j0 j1=>?_,fun h0 e0 nE=>⟨(e0.kill nE).trans (.push _ _ _),?_⟩⟩
   ·have k1:(h.kill b).m.get j=h.m.get j:=by unfold af.kill;simp only[];rw[cQ.aK _ _ (fun q=>j1 q.symm)]
    rw[<-k1];exact(Ext.push (h.kill b) es _).get j (by unfold af.kill;exact j0)
   ·exact e0.next
end Go.cL
namespace Go.Proofs.Ytdpbiegfljmhmaa
open Go.cL
set_option maxRecDepth 100000
end Go.Proofs.Ytdpbiegfljmhmaa
namespace Go.Proofs.Ytdpbiegfljmhmaa.Ext
def sH:List Bool->Nat
 | []=>0
 |true :: I=>sH I+1
 |false :: I=>sH I
theorem Bu:∀m,sH (top m)=m
 |0=>rfl
 |m+1=>by show sH (top m)+1=m+1;rw[Bu m]
theorem wU{a b:Int}{A B:Nat}(ha:a.natAbs<=A)(hb:b.natAbs<=B):(a*b).natAbs<=A*B:=by
 rw[Int.natAbs_mul];exact Nat.mul_le_mul ha hb
theorem wV:∀(m:Nat) (v:aN) (w:Om) (I:List Bool) (B:Nat),(∀J,sH J+1=sH I->(w J).natAbs<=B)->(aX m v w I).natAbs<=vn m v*B
 |0,v,w,I,B,h=>by show(0:Int).natAbs<=_;simp
 |m+1,v,w,[],B,h=>by show(0:Int).natAbs<=_;simp
 |m+1,v,w,false :: I,B,h=>by
  have:=wV m v (fun J=>w (false :: J)) I B (fun J hJ=>h (false :: J) hJ);show(aX m v (fun J=>w (false :: J)) I).natAbs<=(vn m v+(v m).natAbs)*B;rw[Nat.add_mul];omega
 |m+1,v,w,true :: I,B,h=>by
  have h1:=wV m v (fun J=>w (true :: J)) I B (fun J hJ=>h (true :: J) (by show sH J+1+1=sH I+1;omega));have h2:(v m*w (false :: I)).natAbs<=(v m).natAbs*B:=wU (Nat.le_refl _) (h (false :: I) rfl);show(v m*w (false :: I)-aX m v (fun J=>w (true :: J)) I).natAbs<=(vn m v+(v m).natAbs)*B;rw[Nat.add_mul];omega
theorem uq:∀(m:Nat) (v:aN) (w:Om) (I:List Bool) (M B:Nat),(∀i,i<m->(v i).natAbs<=M)->(∀J,sH J+1=sH I->(w J).natAbs<=B)->(aX m v w I).natAbs<=sH I*(M*B)
 |0,v,w,I,M,B,_,_=>by show(0:Int).natAbs<=_;simp
 |m+1,v,w,[],M,B,_,_=>by show(0:Int).natAbs<=_;simp
 |m+1,v,w,false :: I,M,B,hv,h=>uq m v (fun J=>w (false :: J)) I M B (fun i hi=>hv i om) (fun J hJ=>h (false :: J) hJ)
 |m+1,v,w,true :: I,M,B,hv,h=>by
  have h1:=uq m v (fun J=>w (true :: J)) I M B (fun i hi=>hv i om) (fun J hJ=>h (true :: J) (by show sH J+1+1=sH I+1;omega));have h2:(v m*w (false :: I)).natAbs<=M*B:=wU (hv m om) (h (false :: I) rfl);show(v m*w (false :: I)-aX m v (fun J=>w (true :: J)) I).natAbs<=(sH I+1)*(M*B);rw[Nat.add_mul];omega
def sN:Nat->Nat->Nat
 |_,0=>1
 |c,k+1=>c*sN (c-1) k
theorem wW{m:Nat}{W:Nat->aN}{M:Nat}:∀(k:Nat),(∀y,y<k->∀i,i<m->(W y i).natAbs<=M)->∀I,(prod m W k I).natAbs<=sN (sH I) k*M ^ k
 |0,_,I=>by
  show(unit I).natAbs<=1*1;unfold unit;split<;>simp
 |k+1,h,I=>by
  have:=uq m (W k) (prod m W k) I M (sN (sH I-1) k*M ^ k) (h k om) (fun J hJ=>by
   have:=wW k (fun y hy=>h y om) J;rw[show sH I-1=sH J by omega];exact this)
  show(aX m (W k) (prod m W k) I).natAbs<=sH I*sN (sH I-1) k*M ^ (k+1);rw[Nat.pow_succ];have e:sH I*(M*(sN (sH I-1) k*M ^ k))=sH I*sN (sH I-1) k*(M ^ k*M):=by
   rw[Nat.mul_comm M,Nat.mul_assoc,Nat.mul_assoc]
  omega
theorem wX{m n:Nat}{W:Nat->aN}{i k:Nat}(hi:i<n)(hk:k<n)(dS:i≠k)(e:∀r,r<m->W i r=W k r):prod m W n=fun _=>0:=by
 have one:∀{i k:Nat},i<n->k<i->(∀r,r<m->W i r=W k r)->prod m W n=fun _=>0:=by
  intro i k hi hk e;have h:prod m W (i+1)=fun _=>0:=by
   funext I
   show aX m (W i) (prod m W i) I=0;rw[mh m _ I e,show i=k+1+(i-(k+1)) by omega];exact wR _ I
  have:=AE h (n-(i+1));rw[show i+1+(n-(i+1))=n by omega]at this;exact this
 rcases Nat.lt_or_gt_of_ne dS with q|q
 ·exact one hk q (fun r hr=>(e r hr).symm)
 ·exact one hi q e
theorem px{m n:Nat}{W:Nat->aN}{i:Nat}(hi:i<n)(a b:aN)(x y:Int)(I:List Bool):prod m (put W i (fun r=>x*a r+y*b r)) n I=x*prod m (put W i a) n I+y*prod m (put W i b) n I:=by
 have:=Dk (m:=m) (W:=W) (i:=i) (a:=a) (b:=b) (x:=x) (y:=y) (n-(i+1));rw[show i+1+(n-(i+1))=n by omega]at this;rw[this]
theorem Jz{m n:Nat}{W:Nat->aN}{i:Nat}(hi:i<n)(hz:∀r,r<m->W i r=0)(I:List Bool):prod m W n I=0:=by
 have:=px (m:=m) (W:=W) hi (W i) (W i) 0 0 I;rw[fK (W:=put W i (fun r=>0*W i r+0*W i r)) (V:=W) n (fun j hj r hr=>by
  unfold put;split
  ·rename_i e;rw[e];show 0*W i r+0*W i r=W i r;rw[hz r hr];rfl
  ·rfl)]at this
 omega
theorem Lz{m n:Nat}{W:Nat->aN}{r y:Nat}(hr:r<n)(hy:y<n)(dS:r≠y)(t:Int)(I:List Bool):prod m (put W r (fun j=>W r j-t*W y j)) n I=prod m W n I:=by
 have e:(fun j=>W r j-t*W y j)=(fun j=>1*W r j+(-t)*W y j):=by funext j;rw[Int.neg_mul];omega
 rw[e,px hr,jf,wX (W:=put W r (W y)) hr hy dS (fun j _=>by unfold put;rw[if_pos rfl,if_neg om])];show 1*prod m W n I + -t*0=prod m W n I;omega
theorem nH{W:Nat->aN}{i k:Nat}(h:i≠k)(a b:aN):put (put W i a) k b=put (put W k b) i a:=by
 funext j;unfold put
 by_cases h1:j=k
 ·rw[if_pos h1]
  by_cases h2:j=i
  ·omega
  ·rw[if_neg h2,if_pos h1]
 ·rw[if_neg h1]
  by_cases h2:j=i
  ·rw[if_pos h2,if_pos h2]
  ·rw[if_neg h2,if_neg h2,if_neg h1]
theorem jg{W:Nat->aN}{i:Nat}(a b:aN):put (put W i a) i b=put W i b:=by
 funext j;unfold put;split<;>rfl
theorem JA{m n:Nat}{W:Nat->aN}{i k:Nat}(hi:i<n)(hk:k<n)(dS:i≠k)(I:List Bool):prod m (put (put W i (W k)) k (W i)) n I=-prod m W n I:=by
 let P:aN->aN->Int:=fun a b=>prod m (put (put W i a) k b) n I
 have two:∀a,P a a=0:=fun a=>by
  show prod m (put (put W i a) k a) n I=0;rw[wX (W:=put (put W i a) k a) hi hk dS (fun r _=>by unfold put;rw[if_neg dS,if_pos rfl,if_pos rfl])]
 have aad:∀a a' b,P (fun r=>1*a r+1*a' r) b=1*P a b+1*P a' b:=fun a a' b=>by
  show prod m (put (put W i _) k b) n I=_;rw[nH dS,px hi,<-nH dS,<-nH dS]
 have Wg:∀a b b',P a (fun r=>1*b r+1*b' r)=1*P a b+1*P a b':=fun a b b'=>px hk _ _ _ _ _
 have h:=two (fun r=>1*W i r+1*W k r);rw[aad,Wg,Wg,two,two]at h;have e1:P (W i) (W k)=prod m W n I:=by
  show prod m (put (put W i (W i)) k (W k)) n I=_;rw[jf,jf]
 have e2:P (W k) (W i)=prod m (put (put W i (W k)) k (W i)) n I:=rfl;omega
theorem LA{m n:Nat}{W:Nat->aN}{i:Nat}(hi:i<n)(I:List Bool):prod m (put W i (fun r=>-(W i r))) n I=-prod m W n I:=by
 have e:(fun r=>-(W i r))=(fun r=>(-1)*W i r+0*W i r):=by funext r;omega
 rw[e,px hi,jf];omega
def rv(k:Nat)(F:Nat->aN)(J:Nat->Nat):Nat->aN:=fun y i=>F (k-1-y) (J i)
structure kH(w k:Nat)(F F0:Nat->aN):Prop where
 le:∀i,i<k->Sp w k F0 (F i)
 ge:∀i,i<k->Sp w k F (F0 i)
 JB:∃s:Int,(s=1\/s=-1)/\∀d J I,prod d (rv k F J) k I=s*prod d (rv k F0 J) k I
theorem kH.abs{w k:Nat}{F F0:Nat->aN}(h:kH w k F F0)(d:Nat)(J:Nat->Nat)(I:List Bool):(prod d (rv k F J) k I).natAbs=(prod d (rv k F0 J) k I).natAbs:=by
 obtain⟨s,hs,e⟩:=h.JB;have:=e d J I;rcases hs with rfl|rfl<;>omega
theorem kH.refl(w k:Nat)(F:Nat->aN):kH w k F F:=⟨fun i hi=>Sp.row F hi,fun i hi=>Sp.row F hi,1,.inl rfl,fun _ _ _=>(Int.one_mul _).symm⟩
theorem kH.trans{w k:Nat}{F F1 F0:Nat->aN}(h:kH w k F F1)(h0:kH w k F1 F0):kH w k F F0:=by
 obtain⟨s,hs,e⟩:=h.JB;obtain⟨s0,Wh,e0⟩:=h0.JB;refine⟨fun i hi=>Sp.le h0.le (h.le i hi),fun i hi=>Sp.le h.ge (h0.ge i hi),s*s0,?_,fun d J I=>by rw[e,e0,Int.mul_assoc]⟩;rcases hs with rfl|rfl<;>rcases Wh with rfl|rfl<;>simp
theorem LB{k:Nat}{F:Nat->aN}{J:Nat->Nat}{r:Nat}(hr:r<k)(v:aN):∀y,y<k->∀i,rv k (put F r v) J y i=put (rv k F J) (k-1-r) (fun i=>v (J i)) y i:=by
 intro y hy i;unfold rv put;by_cases e:k-1-y=r
 ·rw[if_pos e,if_pos om]
 ·rw[if_neg e,if_neg om]
theorem kH.sub{w k:Nat}{F:Nat->aN}{r y:Nat}(hr:r<k)(hy:y<k)(dS:r≠y)(t:Int):kH w k (put F r (fun j=>F r j-t*F y j)) F:=by
 have hp:∀i,i≠r->put F r (fun j=>F r j-t*F y j) i=F i:=fun i hi=>by unfold put;rw[if_neg hi]
 have hq:put F r (fun j=>F r j-t*F y j) r=fun j=>F r j-t*F y j:=by unfold put;rw[if_pos rfl]
 refine⟨fun i hi=>?_,fun i hi=>?_,1,.inl rfl,fun d J I=>?_⟩
 ·by_cases e:i=r
  ·subst e;rw[hq]
   exact((Sp.row F hr).comb 1 (-t) (Sp.row F hy)).congr (fun j _=>by rw[Int.neg_mul];omega)
  ·rw[hp i e];exact Sp.row F hi
 ·by_cases e:i=r
  ·subst e
   have h1:=Sp.row (w:=w) (put F i (fun j=>F i j-t*F y j)) hr;have h2:=Sp.row (w:=w) (put F i (fun j=>F i j-t*F y j)) hy;rw[hq]at h1;rw[hp y om]at h2;exact(h1.comb 1 t h2).congr (fun j _=>om)
  ·have:=Sp.row (w:=w) (put F r (fun j=>F r j-t*F y j)) hi
   rw[hp i e]at this;exact this
 ·rw[fK k (fun y hy i _=>LB hr _ y hy i)]
  have:=Lz (m:=d) (n:=k) (W:=rv k F J) (r:=k-1-r) (y:=k-1-y) om om om t I;have e1:(fun i=>rv k F J (k-1-r) i-t*rv k F J (k-1-y) i)=fun i=>F r (J i)-t*F y (J i):=by
   funext i;unfold rv;rw[show k-1-(k-1-r)=r by omega,show k-1-(k-1-y)=y by omega]
  rw[e1]at this;rw[this,Int.one_mul]
def Pn(F:Nat->aN)(a b:Nat):Nat->aN:=put (put F a (F b)) b (F a)
theorem kH.swap{w k:Nat}{F:Nat->aN}{a b:Nat}(ha:a<k)(hb:b<k):kH w k (Pn F a b) F:=by
 by_cases dS:a=b
 ·subst dS;unfold Pn;rw[jf,jf];exact .refl _ _ _
 have hv:∀i,Pn F a b i=if i=b then F a else if i=a then F b else F i:=fun i=>rfl
 refine⟨fun i hi=>?_,fun i hi=>?_,-1,.inr rfl,fun d J I=>?_⟩
 ·rw[hv];split
  ·exact Sp.row F ha
  ·split
   ·exact Sp.row F hb
   ·exact Sp.row F hi
 ·by_cases e:i=a
  ·have:=Sp.row (w:=w) (Pn F a b) hb
   rw[hv,if_pos rfl]at this;rw[e];exact this
  ·by_cases e2:i=b
   ·have:=Sp.row (w:=w) (Pn F a b) ha
    rw[hv,if_neg dS,if_pos rfl]at this;rw[e2];exact this
   ·have:=Sp.row (w:=w) (Pn F a b) hi
    rw[hv,if_neg e2,if_neg e]at this;exact this
 ·have e:∀y,y<k->∀i,i<d->rv k (Pn F a b) J y i=put (put (rv k F J) (k-1-a) (rv k F J (k-1-b))) (k-1-b) (rv k F J (k-1-a)) y i:=by
   intro y hy i _;show Pn F a b (k-1-y) (J i)=(if y=k-1-b then rv k F J (k-1-a)else if y=k-1-a then rv k F J (k-1-b)else rv k F J y) i;rw[hv];by_cases e1:k-1-y=b
   ·rw[if_pos e1,if_pos (show y=k-1-b by omega)]
    unfold rv;rw[show k-1-(k-1-a)=a by omega]
   ·rw[if_neg e1,if_neg (show ¬y=k-1-b by omega)]
    by_cases e2:k-1-y=a
    ·rw[if_pos e2,if_pos (show y=k-1-a by omega)]
     unfold rv;rw[show k-1-(k-1-b)=b by omega]
    ·rw[if_neg e2,if_neg (show ¬y=k-1-a by omega)];rfl
  rw[fK k e,JA om om om];omega
theorem kH.neg{w k:Nat}{F:Nat->aN}{r:Nat}(hr:r<k):kH w k (put F r (fun j=>-(F r j))) F:=by
 have hp:∀i,i≠r->put F r (fun j=>-(F r j)) i=F i:=fun i hi=>by unfold put;rw[if_neg hi]
 have hq:put F r (fun j=>-(F r j)) r=fun j=>-(F r j):=by unfold put;rw[if_pos rfl]
 refine⟨fun i hi=>?_,fun i hi=>?_,-1,.inr rfl,fun d J I=>?_⟩
 ·by_cases e:i=r
  ·subst e;rw[hq]
   exact((Sp.row F hr).comb (-1) 0 (Sp.row F hr)).congr (fun j _=>om)
  ·rw[hp i e];exact Sp.row F hi
 ·by_cases e:i=r
  ·subst e
   have h1:=Sp.row (w:=w) (put F i (fun j=>-(F i j))) hr;rw[hq]at h1;exact(h1.comb (-1) 0 h1).congr (fun j _=>om)
  ·have:=Sp.row (w:=w) (put F r (fun j=>-(F r j))) hi
   rw[hp i e]at this;exact this
 ·rw[fK k (fun y hy i _=>LB hr _ y hy i)]
  have:=LA (m:=d) (n:=k) (W:=rv k F J) (i:=k-1-r) om I;have e1:(fun i=>-(rv k F J (k-1-r) i))=fun i=>-(F r (J i)):=by
   funext i;unfold rv;rw[show k-1-(k-1-r)=r by omega]
  rw[e1]at this;rw[this];omega
theorem kH.of_eq{w k:Nat}{F G:Nat->aN}(e:∀i,i<k->F i=G i):kH w k F G:=by
 refine⟨fun i hi=>by rw[e i hi];exact Sp.row G hi,fun i hi=>by rw[<-e i hi];exact Sp.row F hi,1,.inl rfl,fun d J I=>?_⟩;rw[fK k (V:=rv k G J) (fun y hy i _=>by unfold rv;rw[e _ om]),Int.one_mul]
def LC(v:aN)(W:Nat->aN):Nat->aN:=fun y=>match y with|0=>v|y+1=>W y
theorem Dt:∀k:Nat,∃t:Int,∀(d:Nat) (v:aN) (W:Nat->aN),prod d (LC v W) (k+1)=fun I=>t*aX d v (prod d W k) I
 |0=>⟨1,fun d v W=>by funext I;show aX d v unit I=1*aX d v unit I;omega⟩
 |k+1=>by
  obtain⟨t,h⟩:=Dt k;refine⟨-t,fun d v W=>?_⟩
  funext I
  show aX d (W k) (prod d (LC v W) (k+1)) I=-t*aX d v (aX d (W k) (prod d W k)) I;rw[h d v W];have:=iO d (W k) t 0 (aX d v (prod d W k)) (fun _=>0) I;have e:(fun J=>t*aX d v (prod d W k) J+0*(fun _=>(0:Int)) J)=fun J=>t*aX d v (prod d W k) J:=by funext J;omega
  rw[e]at this;rw[this,wQ,Int.neg_mul,Int.mul_neg];omega
theorem Sp.more{w k:Nat}{F:Nat->aN}{v u:aN}(h:Sp w k F v):Sp w (k+1) (put F k u) v:=by
 obtain⟨y,hy⟩:=h;refine⟨fun i=>if i=k then 0 else y i,fun j hj=>?_⟩;show v j=aT (fun i=>(if i=k then 0 else y i)*put F k u i j) k+(if k=k then 0 else y k)*put F k u k j;have e:aT (fun i=>(if i=k then 0 else y i)*put F k u i j) k=aT (fun i=>y i*F i j) k:=aO k (fun i hi=>by
  show(if i=k then 0 else y i)*(if i=k then u else F i) j=y i*F i j;rw[if_neg om,if_neg om])
 rw[if_pos rfl,hy j hj,e];omega
theorem kH.more{w k:Nat}{F F0:Nat->aN}(h:kH w k F F0)(v:aN):kH w (k+1) (put F k v) (put F0 k v):=by
 have hp:∀(F:Nat->aN) i,i≠k->put F k v i=F i:=fun F i hi=>by unfold put;rw[if_neg hi]
 have hq:∀(F:Nat->aN),put F k v k=v:=fun F=>by unfold put;rw[if_pos rfl]
 have hr:∀(F:Nat->aN) J y,y<k+1->∀i,rv (k+1) (put F k v) J y i=LC (fun i=>v (J i)) (rv k F J) y i:=fun F J y hy i=>by
  cases y with
  |zero=>unfold rv;rw[show k+1-1-0=k by omega,hq];rfl
  |succ y=>unfold rv;rw[hp F _ om,show k+1-1-(y+1)=k-1-y by omega];rfl
 obtain⟨s,hs,e⟩:=h.JB;obtain⟨t,ht⟩:=Dt k;refine⟨fun i hi=>?_,fun i hi=>?_,s,hs,fun d J I=>?_⟩
 ·by_cases c:i=k
  ·subst c
   have:=Sp.row (w:=w) (put F0 i v) (show i<i+1 by omega);rw[hq]at this;rw[hq];exact this
  ·rw[hp F i c];exact(h.le i om).more
 ·by_cases c:i=k
  ·subst c
   have:=Sp.row (w:=w) (put F i v) (show i<i+1 by omega);rw[hq]at this;rw[hq];exact this
  ·rw[hp F0 i c];exact(h.ge i om).more
 ·rw[fK (k+1) (fun y hy i _=>hr F J y hy i),fK (k+1) (fun y hy i _=>hr F0 J y hy i),ht,ht]
  have e1:prod d (rv k F J) k=fun I=>s*prod d (rv k F0 J) k I:=by funext I;exact e d J I
  rw[e1];have:=iO d (fun i=>v (J i)) s 0 (prod d (rv k F0 J) k) (fun _=>0) I;have e2:(fun K=>s*prod d (rv k F0 J) k K+0*(fun _=>(0:Int)) K)=fun K=>s*prod d (rv k F0 J) k K:=by funext K;omega
  rw[e2]at this;show t*aX d (fun i=>v (J i)) (fun I=>s*prod d (rv k F0 J) k I) I=s*(t*aX d (fun i=>v (J i)) (prod d (rv k F0 J) k) I);rw[this,Int.zero_mul,Int.add_zero,<-Int.mul_assoc,<-Int.mul_assoc,Int.mul_comm t s]
def fX(f:Nat->Int):Nat->Int
 |0=>1
 |k+1=>fX f k*f k
theorem HW{m:Nat}{W:Nat->aN}:∀k,k<=m->(∀y,y<k->∀i,y<i->i<m->W y i=0)->prod k W k (top k)=fX (fun y=>W y y) k
 |0,_,_=>rfl
 |k+1,hk,h=>by
  obtain⟨h1,h2⟩:=wS (m:=k) (W:=W) k (fun j hj=>h j om k hj om);have e2:(fun J=>prod (k+1) W k (true :: J))=fun _=>0:=funext h2
  show W k k*prod (k+1) W k (false :: top k)-aX k (W k) (fun J=>prod (k+1) W k (true :: J)) (top k)=fX (fun y=>W y y) k*W k k;rw[e2,iJ,h1,HW k om (fun y hy i h3 h4=>h y om i h3 h4)];rw[Int.mul_comm];omega
theorem wY{m:Nat}{W:Nat->aN}:∀(k:Nat) (I:List Bool),prod (m+1) W k (false :: I)=prod m W k I
 |0,I=>rfl
 |k+1,I=>by
  have e:(fun J=>prod (m+1) W k (false :: J))=prod m W k:=funext (wY k);show aX m (W k) (fun J=>prod (m+1) W k (false :: J)) I=aX m (W k) (prod m W k) I;rw[e]
theorem py{f g:Nat->Int}:∀k,(∀i,i<k->f i=g i)->fX f k=fX g k
 |0,_=>rfl
 |k+1,h=>by show fX f k*f k=fX g k*g k;rw[py k (fun i hi=>h i om),h k om]
theorem uu{f:Nat->Int}:∀k,(∀i,i<k->0<f i)->0<fX f k
 |0,_=>by show(0:Int)<1;omega
 |k+1,h=>Int.mul_pos (uu k (fun i hi=>h i om)) (h k om)
theorem Du{f:Nat->Int}:∀k,(∀i,i<k->0<f i)->∀i,i<k->f i<=fX f k
 |0,_,i,hi=>om
 |k+1,h,i,hi=>by
  have p1:=uu k (fun i hi=>h i om);have p2:=h k om;show f i<=fX f k*f k;by_cases e:i=k
  ·subst e
   have:=Int.mul_le_mul_of_nonneg_right (show(1:Int)<=fX f i by omega) (Int.le_of_lt p2);omega
  ·have h1:=Du k (fun i hi=>h i om) i om
   have:=Int.mul_le_mul_of_nonneg_left (show(1:Int)<=f k by omega) (Int.le_of_lt p1);omega
theorem JC(f:Nat->Int):∀k,fX (fun i=>f (k-1-i)) k=fX f k:=by
 have shift:∀k (g:Nat->Int),fX g (k+1)=g 0*fX (fun i=>g (i+1)) k:=fun k=>by
  induction k with
  |zero=>intro g;show 1*g 0=g 0*1;omega
  |succ k ih=>intro g;show fX g (k+1)*g (k+1)=g 0*(fX (fun i=>g (i+1)) k*g (k+1));rw[ih,Int.mul_assoc]
 intro k
 induction k with
 |zero=>rfl
 |succ k ih=>
  rw[shift];show f (k+1-1-0)*fX (fun i=>f (k+1-1-(i+1))) k=fX f k*f k;rw[py k (g:=fun i=>f (k-1-i)) (fun i hi=>by rw[show k+1-1-(i+1)=k-1-i by omega]),ih,Int.mul_comm];rfl
def mc(w k:Nat)(F:Nat->aN)(j:Nat):Nat->Nat:=fun i=>if i<k then aj w (F (k-1-i))else j
theorem HX{w k:Nat}{F:Nat->aN}(h:Br w k F)(j:Nat):prod k (rv k F (mc w k F j)) k (top k)=fX (fun i=>F i (aj w (F i))) k:=by
 rw[HW (m:=k) k (Nat.le_refl _) (fun y hy i h1 h2=>?_),<-JC (fun i=>F i (aj w (F i)))]
 ·refine py k (fun i hi=>?_)
  show F (k-1-i) (mc w k F j i)=F (k-1-i) (aj w (F (k-1-i)));unfold mc;rw[if_pos hi]
 ·unfold rv mc
  rw[if_pos h2];exact bD (h.inc _ _ om om)
theorem R1{k M:Nat}{F0:Nat->aN}{w:Nat}(hM:∀i,i<k->∀j,(F0 i j).natAbs<=M)(J:Nat->Nat):∀y,y<k->∀i,(rv k F0 J y i).natAbs<=M:=fun y hy i=>hM _ om _
theorem kH.leads{w k M:Nat}{F F0:Nat->aN}(h:Br w k F)(l:kH w k F F0)(hM:∀i,i<k->∀j,(F0 i j).natAbs<=M):fX (fun i=>F i (aj w (F i))) k<=(sN k k*M ^ k:Nat):=by
 have h1:=l.abs k (mc w k F 0) (top k);rw[HX h]at h1;have h2:=wW (m:=k) (W:=rv k F0 (mc w k F 0)) (M:=M) k (fun y hy i _=>R1 (w:=w) hM _ y hy i) (top k);rw[Bu,<-h1]at h2;omega
theorem LD{v:aN}{f:Nat->Int}{D:Nat}:∀m,(∀i,i<m->(v i).natAbs<=D)->vn m v<=m*D
 |0,_=>by show 0<=_;omega
 |m+1,h=>by
  have:=LD (v:=v) (f:=f) (D:=D) m (fun i hi=>h i om);have:=h m om;show vn m v+(v m).natAbs<=(m+1)*D;rw[Nat.add_mul];omega
theorem kH.bound{w k M:Nat}{F F0:Nat->aN}(h:Br w k F)(l:kH w k F F0)(hM:∀i,i<k->∀j,(F0 i j).natAbs<=M){r:Nat}(hr:r<k)(hb:∀i,i<k->(F r (aj w (F i))).natAbs<=(F i (aj w (F i))).natAbs)(j:Nat):(F r j).natAbs<=k*(sN k k*M ^ k):=by
 have hD:0<fX (fun i=>F i (aj w (F i))) k:=uu k h.pos;obtain⟨D,eD⟩:∃D:Nat,fX (fun i=>F i (aj w (F i))) k=D:=⟨(fX (fun i=>F i (aj w (F i))) k).toNat,om⟩;have h0:aX (k+1) (rv k F (mc w k F j) (k-1-r)) (prod (k+1) (rv k F (mc w k F j)) k) (true :: top k)=0:=by
  have:=wR (m:=k+1) (W:=rv k F (mc w k F j)) (k:=k-1-r) r (true :: top k);rw[show k-1-r+1+r=k by omega]at this;exact this
 have h1:rv k F (mc w k F j) (k-1-r) k*prod (k+1) (rv k F (mc w k F j)) k (false :: top k)-aX k (rv k F (mc w k F j) (k-1-r)) (fun J=>prod (k+1) (rv k F (mc w k F j)) k (true :: J)) (top k)=0:=h0;rw[wY,HX h,eD]at h1;have e1:rv k F (mc w k F j) (k-1-r) k=F r j:=by unfold rv mc;rw[if_neg om,show k-1-(k-1-r)=r by omega]
 rw[e1]at h1;have h2:=wV k (rv k F (mc w k F j) (k-1-r)) (fun J=>prod (k+1) (rv k F (mc w k F j)) k (true :: J)) (top k) (sN k k*M ^ k) (fun J hJ=>by
  rw[l.abs];have:=wW (m:=k+1) (W:=rv k F0 (mc w k F j)) (M:=M) k (fun y hy i _=>R1 (w:=w) hM _ y hy i) (true :: J);rw[show sH (true :: J)=k by rw[<-Bu k,<-hJ];rfl]at this;exact this)
 have h3:vn k (rv k F (mc w k F j) (k-1-r))<=k*D:=LD (f:=fun _=>0) k (fun i hi=>by
  unfold rv mc;rw[if_pos hi,show k-1-(k-1-r)=r by omega];have q1:=hb (k-1-i) om;have q2:=Du k h.pos (k-1-i) om;have q3:=h.pos (k-1-i) om;rw[eD]at q2;omega)
 generalize aX k (rv k F (mc w k F j) (k-1-r)) (fun J=>prod (k+1) (rv k F (mc w k F j)) k (true :: J)) (top k)=W at h1 h2;have h4:(F r j).natAbs*D=W.natAbs:=by rw[show W=F r j*D by omega,Int.natAbs_mul];rfl
 have h5:(F r j).natAbs*D<=k*(sN k k*M ^ k)*D:=by
  rw[h4];refine Nat.le_trans h2 (Nat.le_trans (Nat.mul_le_mul_right _ h3) ?_);rw[Nat.mul_assoc,Nat.mul_comm D,<-Nat.mul_assoc];exact Nat.le_refl _
 exact Nat.le_of_mul_le_mul_right h5 om
theorem kH.ne{w k d:Nat}{F F0:Nat->aN}(l:kH w k F F0){J:Nat->Nat}{I:List Bool}(hJ:∀i,i<d->J i<w)(h:prod d (rv k F0 J) k I≠0){r:Nat}(hr:r<k):aj w (F r)<w:=by
 rcases Nat.lt_or_ge (aj w (F r)) w with c|c
 ·exact c
 ·exfalso
  have h1:=l.abs d J I;rw[Jz (W:=rv k F J) (i:=k-1-r) om (fun i hi=>by
   unfold rv;rw[show k-1-(k-1-r)=r by omega];exact bD (w:=w) (by have:=hJ i hi;omega))]at h1
  omega
end Go.Proofs.Ytdpbiegfljmhmaa.Ext
namespace Go.Proofs.Ytdpbiegfljmhmaa
open Go.cL
set_option maxRecDepth 100000
variable{F:bg}{b0 head arith cmp d0 fP jD conv neg imax uv ofNat m0 place HY nz LF rd wr push next vL nat iP n0 rG cut zN o0 mT part app PI putAt fresh aw aH wrote bZ lt ne mU t0 rU yn u0 v0 w0 x0 bytes y0:_}(hA:AP F ⟨b0,head,arith,cmp,d0,fP,jD,conv,neg,imax,uv,ofNat,m0,place,HY,nz,LF,rd,wr,push,next,vL,nat,iP,n0,rG,cut,zN,o0,mT,part,app,PI,putAt,fresh,aw,aH,wrote,bZ,lt,ne,mU,t0,rU,yn,u0,v0,w0,x0,bytes,y0⟩)
include hA
theorem HZ(k:IntKind)(a b:Int):arith .add k a b=k.wrap (a+b):=by have:=hA.eq;injections;subst_vars;rfl
theorem LG(k:IntKind)(a b:Int):arith .sub k a b=k.wrap (a-b):=by have:=hA.eq;injections;subst_vars;rfl
theorem LH(k:IntKind)(a b:Int):arith .mul k a b=k.wrap (a*b):=by have:=hA.eq;injections;subst_vars;rfl
theorem Dw(k:IntKind)(a b:Int):arith .quo k a b=k.wrap (a.tdiv b):=by have:=hA.eq;injections;subst_vars;rfl
theorem H2(k:IntKind)(a b:Int):arith .rem k a b=a.tmod b:=by have:=hA.eq;injections;subst_vars;rfl
theorem aB(a b:Int):cmp .lss a b=decide (a<b):=by have:=hA.eq;injections;subst_vars;rfl
theorem jE(a b:Int):cmp .leq a b=decide (a<=b):=by have:=hA.eq;injections;subst_vars;rfl
theorem fg(a b:Int):cmp .gtr a b=decide (b<a):=by have:=hA.eq;injections;subst_vars;rfl
theorem cA(a b:Int):cmp .geq a b=decide (b<=a):=by have:=hA.eq;injections;subst_vars;rfl
theorem dg(a b:Int):cmp .eql a b=decide (a=b):=by have:=hA.eq;injections;subst_vars;rfl
theorem cD(a b:Int):cmp .neq a b=decide (a≠b):=by
 have h:cmp .neq a b=(a != b):=by have:=hA.eq;injections;subst_vars;rfl
 rw[h];by_cases e:a=b<;>simp[e]
theorem aR(n:Nat):ofNat n=n:=by have:=hA.eq;injections;subst_vars;rfl
theorem gE(o:Nat)(i:Int)(n:Nat):place o i n=o+i.toNat*n:=by have:=hA.eq;injections;subst_vars;rfl
theorem Wi(i:Int)(n:Nat):HY i n=(0<=i/\i<n):=by have:=hA.eq;injections;subst_vars;rfl
theorem aae(b:Int):nz b=(b≠0):=by have:=hA.eq;injections;subst_vars;rfl
theorem Dz(h:af)(b o n:Nat)(l:List Value):rd h b o n l=(h.aL ⟨b,o,none⟩ n=some l):=by have:=hA.eq;injections;subst_vars;rfl
theorem LI(h:af)(b o:Nat)(vs:List Value)(h':af):wr h b o vs h'=(h.write b o vs=some h'):=by have:=hA.eq;injections;subst_vars;rfl
theorem aV(h:af)(es:Nat)(cs:List Value):push h es cs=h.push es cs:=by have:=hA.eq;injections;subst_vars;rfl
theorem aW(h:af):next h=h.next:=by have:=hA.eq;injections;subst_vars;rfl
theorem Tg(l c:Int):vL l c=(0<=l/\l<=c/\c<=1073741824):=by have:=hA.eq;injections;subst_vars;rfl
theorem AF(i:Int):nat i=i.toNat:=by have:=hA.eq;injections;subst_vars;rfl
theorem Bv(z:List Value)(c:Int):iP z c=bF z c.toNat:=by have:=hA.eq;injections;subst_vars;rfl
theorem df(b:Bool):fP b = !b:=by have:=hA.eq;injections;subst_vars;rfl
theorem Bw(a b:Bool):jD a b=(a == b):=by have:=hA.eq;injections;subst_vars;rfl
theorem rV(k:IntKind)(n:Int):conv k n=k.wrap n:=by have:=hA.eq;injections;subst_vars;rfl
theorem u7(k:IntKind)(n:Int):neg k n=k.wrap (0-n):=by have:=hA.eq;injections;subst_vars;rfl
theorem LJ(x y:Int):imax x y=if y>x then y else x:=by have:=hA.eq;injections;subst_vars;rfl
theorem Th(x y:Int):uv x y=if y<x then y else x:=by have:=hA.eq;injections;subst_vars;rfl
theorem u9(ts:List TypeId)(l:List Value)(h:af)(C:Option Addr->Nat->Nat->af->Prop):app ts l h C = ∃a n c h',cO Try.prog h ts l=some (.slice a n c,h')/\C a n c h':=by have:=hA.eq;injections;subst_vars;rfl
theorem H3(ts:List TypeId)(l:List Value)(h:af)(C:Int->af->Prop):PI ts l h C = ∃n h',sO Try.prog h ts l=some (.int .i64 n,h')/\C n h':=by have:=hA.eq;injections;subst_vars;rfl
theorem LK(c:Nat)(j:Int):cut c j=(0<=j/\j<=cM c):=by have:=hA.eq;injections;subst_vars;rfl
theorem sP(t:TypeId)(a b:Array Value)(C:Bool->Prop):rG t a b C=(Try.prog.eqGuardType Try.prog.depth t=false/\∃r,oZ Try.prog 30 t (.agg a) (.agg b)=some r/\C r):=by have:=hA.eq;injections;subst_vars;rfl
theorem PJ(s:ByteArray)(i:Int)(C:Int->Prop):mT s i C=(0<=i/\∃b:UInt8,s[i.toNat]?=some b/\C b.toNat):=by have:=hA.eq;injections;subst_vars;rfl
theorem qE(h:af)(id es:Nat)(cs:List Value):putAt h id es cs=h.putAt id es cs:=by have:=hA.eq;injections;subst_vars;rfl
theorem mj(h:af):fresh h=h.dG:=by have:=hA.eq;injections;subst_vars;rfl
theorem eV(h h':af):aw h h'=h'.aw h.low:=by have:=hA.eq;injections;subst_vars;rfl
theorem kv(h:af)(n:Nat):aH h n=h.aH n:=by have:=hA.eq;injections;subst_vars;rfl
theorem H4(h h':af):wrote h h'=Nat.blt h'.low h.next:=by have:=hA.eq;injections;subst_vars;rfl
theorem cN(a b:Nat):bZ a b=a+b:=by have:=hA.eq;injections;subst_vars;rfl
theorem aaf(a b:Nat):ne a b=(a≠b):=by have:=hA.eq;injections;subst_vars;rfl
theorem PK(wx wy l:Bool)(b dR:Nat):mU wx wy l b dR=(wx=false/\wy=false/\(l=true\/b<dR)):=by have:=hA.eq;injections;subst_vars;rfl
theorem kF{i:Int}{n:Nat}(h0:0<=i)(h1:i<n):HY i n:=by rw[Wi hA];exact⟨h0,h1⟩
theorem aC{h:af}{b o:Nat}{i:Int}{es m:Nat}{l:List Value}(hr:h.aL ⟨b,o+i.toNat*es,none⟩ m=some l):rd h b (place o i es) m l:=by rw[Dz hA,gE hA];exact hr
theorem iQ{h:af}{b o m:Nat}{l:List Value}(hr:h.aL ⟨b,o,none⟩ m=some l):rd h b o m l:=by rw[Dz hA];exact hr
theorem wZ{h h':af}{b o:Nat}{i:Int}{es:Nat}{l:List Value}(hr:h.write b (o+i.toNat*es) l=some h'):wr h b (place o i es) l h':=by rw[LI hA,gE hA];exact hr
theorem kI{h h':af}{b o:Nat}{l:List Value}(hr:h.write b o l=some h'):wr h b o l h':=by rw[LI hA];exact hr
theorem dA{b:Int}(h:b≠0):nz b:=by rw[aae hA];exact h
theorem LM{l c:Int}(h0:0<=l)(h1:l<=c)(h2:c<=1073741824):vL l c:=by rw[Tg hA];exact⟨h0,h1,h2⟩
theorem aF{a b:Int}(h1:-9223372036854775808<=a+b)(h2:a+b<9223372036854775808):arith .add .i64 a b=a+b:=by rw[HZ hA,wrap64 h1 h2]
theorem bR{a b:Int}(h1:-9223372036854775808<=a-b)(h2:a-b<9223372036854775808):arith .sub .i64 a b=a-b:=by rw[LG hA,wrap64 h1 h2]
theorem jh{a b:Int}(h1:-9223372036854775808<=a*b)(h2:a*b<9223372036854775808):arith .mul .i64 a b=a*b:=by rw[LH hA,wrap64 h1 h2]
theorem sQ{a b:Int}(h0:0<=a)(h1:a<9223372036854775808)(hb:0<b):arith .quo .i64 a b=a / b:=by
 have h2:0<=a / b:=Int.ediv_nonneg h0 om;have h3:a / b<=a:=Int.ediv_le_self _ h0;rw[Dw hA,Int.tdiv_eq_ediv_of_nonneg h0,wrap64 om om]
theorem vc{a:Int}(h0:0<=a)(h1:a<256):conv .u8 a=a:=by rw[rV hA,Wj h0 h1]
theorem kx{a:Int}(h0:-9223372036854775808<=a)(h1:a<9223372036854775808):conv .i64 a=a:=by rw[rV hA,wrap64 h0 h1]
theorem Ti{h h':af}{b dR n:Nat}(hw:h'=(h.aH n).dG)(hb:b<dR):mU false (wrote (aH h n) h') false b dR:=by
 rw[PK hA,H4 hA,kv hA,hw];exact⟨rfl,zO _,.inr hb⟩
theorem LN{s:ByteArray}{i:Int}{C:Int->Prop}(h0:0<=i)(h1:i<s.size)(hC:∀c,c=sat s i->0<=c->c<256->C c):mT s i C:=by
 rw[PJ hA];have hi:i.toNat<s.size:=om
 refine⟨h0,s[i.toNat],by simp[hi],?_⟩;refine hC _ (by unfold sat;simp[hi]) om ?_;have:=(s[i.toNat]).toNat_lt;omega
theorem PL{h:af}{b o f m:Nat}{l:List Value}(hr:h.aL ⟨b,o+f,none⟩ m=some l):rd h b (bZ o f) m l:=by rw[Dz hA,cN hA];exact hr
theorem PM{h h':af}{b o f:Nat}{l:List Value}(hr:h.write b (o+f) l=some h'):wr h b (bZ o f) l h':=by rw[LI hA,cN hA];exact hr
theorem Ly{f:Unit->Prop}(h:f ()):rU f:=by have:=hA.eq;injections;subst_vars;exact h
theorem R0{a b:Nat}(h:a≠b):ne a b:=by rw[aaf hA];exact h
theorem gK(X:af):Ext X (fresh X):=by rw[mj hA];exact .dG _
theorem aA(X:af):(fresh X).low<=(fresh X).next:=by rw[mj hA];exact DA _
theorem cU{h X h':af}(hl:h.low<=h.next)(y:Ext h X)(z:Ext (fresh X) h'):Ext h (aw X h'):=by
 rw[eV hA];exact Ext.Bq ((y.trans (gK hA X)).trans z) y hl
theorem bS{X:af}(hl:X.low<=X.next):aw X (fresh X)=X:=by rw[eV hA,mj hA];exact vM hl
theorem w6(a b:Int):fP (jD (cmp .lss a 0) (cmp .lss b 0))=true↔¬(a<0↔b<0):=by
 rw[df hA,Bw hA,aB hA,aB hA];by_cases h1:a<0<;>by_cases h2:b<0<;>simp[h1,h2]
theorem av(h:af)(n:Nat):Ext h (aH h n):=by rw[kv hA];exact .aH _ _
theorem LO(k:IntKind)(a b:Int):arith .and k a b=k.wrap (BitVec.ofInt k.bits a &&& BitVec.ofInt k.bits b).toNat:=by have:=hA.eq;injections;subst_vars;rfl
theorem aag(k:IntKind)(a b:Int):arith .or k a b=k.wrap (BitVec.ofInt k.bits a ||| BitVec.ofInt k.bits b).toNat:=by have:=hA.eq;injections;subst_vars;rfl
theorem Wk(k:IntKind)(a b:Int):arith .xor k a b=k.wrap (BitVec.ofInt k.bits a ^^^ BitVec.ofInt k.bits b).toNat:=by have:=hA.eq;injections;subst_vars;rfl
theorem R2(k:IntKind)(a b:Int):arith .shl k a b=k.wrap (a*2 ^ (min b.toNat k.bits)):=by have:=hA.eq;injections;subst_vars;rfl
theorem LP(k:IntKind)(a b:Int):arith .shr k a b=a.fdiv (2 ^ (min b.toNat k.bits)):=by have:=hA.eq;injections;subst_vars;rfl
theorem mE{a b:Int}(h1:0<=a+b)(h2:a+b<18446744073709551616):arith .add .u64 a b=a+b:=by rw[HZ hA,wP h1 h2]
theorem vN{a b:Int}(h1:0<=a-b)(h2:a-b<18446744073709551616):arith .sub .u64 a b=a-b:=by rw[LG hA,wP h1 h2]
theorem nI{a b:Int}(h1:0<=a*b)(h2:a*b<18446744073709551616):arith .mul .u64 a b=a*b:=by rw[LH hA,wP h1 h2]
theorem DC(a b:Int):arith .mul .u64 a b=a*b % 18446744073709551616:=by rw[LH hA,nF]
theorem R3(a b:Int):arith .add .u64 a b=(a+b) % 18446744073709551616:=by rw[HZ hA,nF]
theorem R4(a b:Int):arith .sub .u64 a b=(a-b) % 18446744073709551616:=by rw[LG hA,nF]
theorem jj{a b:Int}(h0:0<=a)(h1:a<18446744073709551616)(hb:0<b):arith .quo .u64 a b=a / b:=by
 have h2:0<=a / b:=Int.ediv_nonneg h0 om;have h3:a / b<=a:=Int.ediv_le_self _ h0;rw[Dw hA,Int.tdiv_eq_ediv_of_nonneg h0,wP om om]
theorem PN{a b:Int}(h0:0<=a):arith .rem .u64 a b=a % b:=by
 rw[H2 hA,Int.tmod_eq_emod_of_nonneg h0]
theorem ml{a:Int}(h0:0<=a)(h1:a<18446744073709551616):conv .u64 a=a:=by rw[rV hA,wP h0 h1]
theorem H5{a:Int}(h0:0<=a)(h1:a<18446744073709551616)(k:Nat){m:Int}(hk:k<=63)(hm:m=2 ^ k-1):arith .and .u64 a m=a % 2 ^ k:=by
 have LQ:(0:Int)<2 ^ k:=Int.pow_pos om;have hp:(1:Int)<=2 ^ k:=om
 have hp2:(2:Int) ^ k<=2 ^ 63:=by
  have:=Nat.pow_le_pow_right (n:=2) om hk
  exact_mod_cast this
 have h63:(2:Int) ^ 63=9223372036854775808:=by rfl
 rw[LO hA];show IntKind.wrap .u64 _=_;have e:m.toNat=2 ^ k-1:=by
  have:((2 ^ k:Nat):Int)=2 ^ k:=by push_cast;rfl
  omega
 rw[show IntKind.bits .u64=64 from rfl,We h0 h1 om om,e,Nat.and_two_pow_sub_one_eq_mod];have e2:((a.toNat % 2 ^ k:Nat):Int)=a % 2 ^ k:=by
  push_cast
  rw[Int.toNat_of_nonneg h0]
 have h3:0<=a % 2 ^ k:=Int.emod_nonneg _ om;have h4:a % 2 ^ k<2 ^ k:=Int.emod_lt_of_pos _ om;rw[e2,wP h3 om]
theorem w7{a:Int}(h0:0<=a)(k:Nat)(hk:k<=64){b:Int}(hb:b=k):arith .shr .u64 a b=a / 2 ^ k:=by
 rw[LP hA,show IntKind.bits .u64=64 from rfl,hb,Int.toNat_natCast,Nat.min_eq_left hk,Int.fdiv_eq_ediv_of_nonneg _ (Int.le_of_lt (Int.pow_pos om))]
theorem Gg(a:Int)(k:Nat)(hk:k<=64){b:Int}(hb:b=k):arith .shl .u64 a b=a*2 ^ k % 18446744073709551616:=by
 rw[R2 hA,show IntKind.bits .u64=64 from rfl,hb,Int.toNat_natCast,Nat.min_eq_left hk,nF]
theorem Ze{a b:Int}(k:Nat)(ha:0<=a)(nE:0<=b)(FQ:b<2 ^ k)(h:a*2 ^ k+b<18446744073709551616):arith .or .u64 (a*2 ^ k) b=a*2 ^ k+b:=by
 have hp:(0:Int)<2 ^ k:=Int.pow_pos om;have hm:0<=a*2 ^ k:=Int.mul_nonneg ha om;rw[aag hA,show IntKind.bits .u64=64 from rfl,aac hm om nE om];have e1:(a*2 ^ k).toNat=2 ^ k*a.toNat:=by
  have:((2 ^ k*a.toNat:Nat):Int)=a*2 ^ k:=by
   push_cast
   rw[Int.toNat_of_nonneg ha,Int.mul_comm]
  omega
 have hk:((2 ^ k:Nat):Int)=2 ^ k:=by push_cast;rfl
 have e2:2 ^ k*a.toNat+b.toNat=2 ^ k*a.toNat ||| b.toNat:=Nat.two_pow_add_eq_or_of_lt om _;rw[e1,<-e2];have e3:((2 ^ k*a.toNat+b.toNat:Nat):Int)=a*2 ^ k+b:=by
  push_cast
  rw[Int.toNat_of_nonneg ha,Int.toNat_of_nonneg nE,Int.mul_comm]
 rw[e3,wP om om]
theorem ff{b:Int}(h:0<=b):LF b:=by
 have e:LF b=(0<=b):=by have:=hA.eq;injections;subst_vars;rfl
 rw[e];exact h
theorem nJ{a:Int}(h0:0<=a)(h1:a<18446744073709551616):arith .and .u64 a 4294967295=a % 4294967296:=H5 hA h0 h1 32 om (by decide)
theorem pz{a:Int}(h0:0<=a):arith .shr .u64 a 32=a / 4294967296:=w7 hA h0 32 om (by rfl)
theorem PO{t e es:Nat}(hT:fW Try.prog t e es){α:Type}{enc:α->List Value}(he:∀x,(enc x).length=es)(LQ:0<es)(fz:∀x,(enc x).all aD=true){h:af}{a:Option Addr}{n c:Nat}{l:List α}{v:α}(hp:nK h es a n c (l.flatMap enc))(hn:n<=100000){C:Option Addr->Nat->Nat->af->Prop}
  (hC:∀a' c' h',nK h' es a' (n+1) c' ((l++[v]).flatMap enc)->(∀h0,Ext h0 h->jY h0.next a->Ext h0 h'/\jY h0.next a')->C a' (n+1) c' h') :
  app [t,t] [.slice a n c,.slice (some ⟨next h,0,none⟩) 1 1] (push h es (enc v)) C:=by
 rw[u9 hA,aV hA,aW hA];have hs:Cells (h.push es (enc v)) (some ⟨h.next,0,none⟩) 1 es (enc v):=⟨rfl,by simp[af.push],by rw[(aJ.push h es _).aL (by rw[he];omega),List.drop_zero,List.take_of_length_le (by rw[he];omega)]⟩;have Gh:(l.flatMap enc).all aD=true:=by
  rw[List.all_flatMap];simp only[fz,List.all_eq_true,implies_true]
 obtain⟨a',c',h',h1,h2,h3⟩:=AG hT hT.wT (c2:=1) (hp.ext (.push h es (enc v))) hs Gh (fz v) om om;refine⟨a',n+1,c',h',h1,hC a' c' h' (by simpa using h2) (fun h0 e0 f0=>h3 h0 (e0.trans (.push _ _ _)) f0)⟩
theorem H6{t e es:Nat}(hT:fW Try.prog t e es){α:Type}{enc:α->List Value}(he:∀x,(enc x).length=es)(LQ:0<es)(fz:∀x,(enc x).all aD=true){h0 h h9:af}(aq:h0.low<=h0.next)(e0:Ext h0 h){N k:Nat}(hk:k<N)(iB:h9=aH h N)
  {a:Option Addr} {n c:Nat} {l:List α} {v:α} (hp:nK h es a n c (l.flatMap enc)) (hf:jY h0.next a) (hn:n<=100000) {C:Option Addr->Nat->Nat->af->Prop}
  (hC:∀a' c' h',nK (aw (putAt h9 (bZ (next h) k) es (enc v)) h') es a' (n+1) c' ((l++[v]).flatMap enc)->jY h0.next a'->Ext h0 (aw (putAt h9 (bZ (next h) k) es (enc v)) h')->C a' (n+1) c' h') :
  app [t,t] [.slice a n c,.slice (some ⟨bZ (next h) k,0,none⟩) 1 1] (fresh (putAt h9 (bZ (next h) k) es (enc v))) C:=by
 rw[kv hA]at iB;subst iB;rw[cN hA,aW hA,qE hA]at hC ⊢;rw[mj hA];have x1:Ext h ((h.aH N).putAt (h.next+k) es (enc v)):=Dj h N om es _;have o1:=aJ.putAt (h.aH N) (h.next+k) es (enc v);have n1:((h.aH N).putAt (h.next+k) es (enc v)).next=h.next+N:=rfl;generalize (h.aH N).putAt (h.next+k) es (enc v)=X at *;have xf:=x1.trans (Ext.dG X);have o2:aJ X.dG (h.next+k) es (enc v):=o1.ext (Ext.dG X) om;have hs:Cells X.dG (some ⟨h.next+k,0,none⟩) 1 es (enc v):=⟨rfl,by show h.next+k<X.next;omega,by rw[o2.aL (by rw[he];omega),List.drop_zero,List.take_of_length_le (by rw[he];omega)]⟩;obtain⟨a',c',h',h1,h2,h3⟩:=AG hT hT.wT (c2:=1) (hp.ext xf) hs (ph fz l) (fz v) om om;obtain⟨w1,w2⟩:=h3 h0 (e0.trans xf) hf;rw[u9 hA];refine⟨a',n+1,c',h',h1,hC a' c' h' ?_ w2 ?_⟩
 ·rw[eV hA]
  refine nK.gF (h:=h') (by simpa using h2) (Nat.le_refl _) (fun ad cW hb=>rfl)
 ·rw[eV hA]
  exact Ext.Bq w1 (e0.trans x1) aq
theorem Tj{t:TypeId}{e es:Nat}(hT:fW Try.prog t e es){a:Option Addr}{n:Nat}(hn:n<=1000000){k:IntKind}{i:Int}(i0:1<=i)(i1:i<n){C:Option Addr->Nat->Nat->Prop}
  (h:C (a.map (fV · (i.toNat*es))) (n-i.toNat) (au es (n-i.toNat))):zN t (.slice a n (au es n)) (some (.int k i)) none none C:=by
 have sR:zN t (.slice a n (au es n)) (some (.int k i)) none none C = ∃a' n' c',gM Try.prog t (.slice a n (au es n)) (some (.int k i)) none none=some (.slice a' n' c')/\C a' n' c':=by have:=hA.eq;injections;subst_vars;rfl
 rw[sR];refine⟨_,_,_,?_,h⟩;have hs:n<aS:=by unfold aS;omega
 unfold gM;simp only[hT.wT,hT.size];unfold lj;simp only[gG,iG,ia,bound];rw[if_pos ⟨om,om⟩];simp only[];rw[ct hs,bz (Nat.le_refl _),cT (dr es n),jZ hs];simp only[cond_true,cond_false,Option.isSome_none,Bool.or_false];rw[Jv (show i.toNat≠0 by omega),dU om];simp
theorem By{t:TypeId}{e es:Nat}(hT:fW Try.prog t e es){b o n:Nat}(hn:n<=1000000){k:IntKind}{i:Int}(i0:0<=i)(i1:i<n){C:Option Addr->Nat->Nat->Prop}
  (h:∀c',C (some ⟨b,o+i.toNat*es,none⟩) (n-i.toNat) c'):zN t (.slice (some ⟨b,o,none⟩) n (au es n)) (some (.int k i)) none none C:=by
 by_cases c:1<=i
 ·exact Tj hA hT hn c i1 (h _)
 obtain rfl:i=0:=om
 have sR:zN t (.slice (some ⟨b,o,none⟩) n (au es n)) (some (.int k 0)) none none C = ∃a' n' c',gM Try.prog t (.slice (some ⟨b,o,none⟩) n (au es n)) (some (.int k 0)) none none=some (.slice a' n' c')/\C a' n' c':=by have:=hA.eq;injections;subst_vars;rfl
 rw[sR];have h:=h (au es n);rw[show o+(0:Int).toNat*es=o by simp,show n-(0:Int).toNat=n by simp]at h;refine⟨_,_,_,?_,h⟩;have hs:n<aS:=by unfold aS;omega
 unfold gM;simp only[hT.wT,hT.size];unfold lj;simp only[gG,iG,ia,bound];rw[if_pos ⟨om,om⟩];simp only[];rw[ct hs,bz (Nat.le_refl _),cT (dr es n),jZ hs];simp
theorem DD{t:TypeId}{e es:Nat}(hT:fW Try.prog t e es){b o n c:Nat}(ec:c=au es n)(hn:n<=1000000){k:IntKind}{i:Int}(i0:0<=i)(i1:i<n){C:Option Addr->Nat->Nat->Prop}
  (h:∀c',C (some ⟨b,o+i.toNat*es,none⟩) (n-i.toNat) c'):zN t (.slice (some ⟨b,o,none⟩) n c) (some (.int k i)) none none C:=by
 subst ec;exact By hA hT hn i0 i1 h
theorem LS{t:TypeId}{e es:Nat}(hT:fW Try.prog t e es){h:af}{a:Option Addr}{n c:Nat}(hn:n<=1000000)(hc:c=au es n\/(n=0/\a=none/\c=0)){cells:List Value}(hs:Cells h a n es cells){k:IntKind}{i:Nat}(hi:i<=n){C:Option Addr->Nat->Nat->Prop}
  (hC:∀a' c',(∀h',Ext h h'->uk Try.prog h' e es a' (n-i) c' (cells.drop (i*es)))->C a' (n-i) c'):zN t (.slice a n c) (some (.int k i)) none none C:=by
 have sR:zN t (.slice a n c) (some (.int k i)) none none C = ∃a' n' c',gM Try.prog t (.slice a n c) (some (.int k i)) none none=some (.slice a' n' c')/\C a' n' c':=by have:=hA.eq;injections;subst_vars;rfl
 have hlen:=hs.length;rw[sR];unfold gM;simp only[hT.wT,hT.size];unfold lj;simp only[gG,iG,ia,bound];rcases hc with rfl|⟨rfl,rfl,rfl⟩
 ·have FR:n<aS:=by unfold aS;omega
  rw[if_pos ⟨om,om⟩];simp only[];rw[ct FR,bz (Nat.le_refl _),cT (dr es n),jZ FR];simp only[cond_true,cond_false,Option.isSome_none,Bool.or_false,Int.toNat_natCast];by_cases c0:i=0
  ·subst c0
   rw[show Nat.beq 0 0=true from rfl];simp only[cond_true];refine⟨_,_,_,rfl,hC _ _ (fun h' x=>?_)⟩;rw[Nat.zero_mul,List.drop_zero];exact uk.of _ (hs.ext x)
  rw[Jv c0];simp only[cond_false];by_cases c1:i<n
  ·rw[dU c1]
   simp only[Bool.true_and,Nat.beq_refl,cond_true];refine⟨_,_,_,rfl,hC _ _ (fun h' x=>?_)⟩;have:=(hs.ext x).part (i:=i) (m:=n-i) om;rw[List.take_of_length_le (by rw[List.length_drop,hlen,Nat.sub_mul];omega)]at this;exact uk.of _ this
  ·have e1:i=n:=om
   subst e1;rw[cT (Nat.le_refl _)];simp only[Bool.false_and,cond_false];rw[show Nat.beq i i=true by simp];simp only[cond_true,Nat.sub_self];refine⟨_,_,_,rfl,?_⟩;have:=hC (some ⟨0,0,some 0⟩) aS (fun h' _=>by
    rw[Nat.sub_self,List.drop_of_length_le om];exact uk.nothing _ _ _ _ _ _)
   rwa [Nat.sub_self]at this
 ·obtain rfl:i=0:=om
  obtain⟨_,rfl⟩:=hs;rw[if_pos ⟨om,by simp⟩];simp only[];refine⟨none,0,0,rfl,?_⟩;exact hC none 0 (fun h' _=>by simpa using uk.of (P:=Try.prog) (h:=h') (e:=e) (es:=es) 0 (show Cells h' none 0 es []from⟨rfl,rfl⟩))
