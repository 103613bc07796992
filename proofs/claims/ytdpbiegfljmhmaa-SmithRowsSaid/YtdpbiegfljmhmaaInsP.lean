import Derived.Test.YtdpbiegfljmhmaaSymI
import Derived.Test.YtdpbiegfljmhmaaFracR
import Derived.Test.YtdpbiegfljmhmaaFracA
import Derived.Test.YtdpbiegfljmhmaaFracT
set_option linter.unusedSimpArgs false
set_option linter.unusedVariables false
namespace Go.Proofs.Ytdpbiegfljmhmaa
open Go.cY
def gt{α:Type}[Inhabited α](l:List α)(i:Int):α:=l.getD i.toNat default
structure Rows{α:Type}(enc:α->List Value)(es:Nat)(h:af)(a:Option Addr)(n:Nat)(l:List α):Prop where
 cells:Cells h a n es (l.flatMap enc)
 each:∀x,(enc x).length=es
 pos:0<es
theorem dG{α:Type}{enc:α->List Value}{es:Nat}(he:∀x,(enc x).length=es)(l:List α):(l.flatMap enc).length=l.length*es:=by
 induction l with
 |nil=>simp
 |cons c l ih=>rw[List.flatMap_cons,List.length_append,he,ih,List.length_cons,Nat.add_mul];omega
theorem GY{α:Type}[Inhabited α]{enc:α->List Value}{es:Nat}(he:∀x,(enc x).length=es)(l:List α)(i:Nat)(hi:i<l.length)(k m:Nat)(hk:k+m<=es):((l.flatMap enc).drop (i*es+k)).take m=((enc (l.getD i default)).drop k).take m:=by
 induction l generalizing i with
 |nil=>simp at hi
 |cons c l ih=>
  cases i with
  |zero=>
   rw[List.flatMap_cons,Nat.zero_mul,Nat.zero_add,List.drop_append_of_le_length (by rw[he];omega),List.take_append_of_le_length (by rw[List.length_drop,he];omega)];rfl
  |succ i=>
   have e:((c :: l).flatMap enc).drop ((i+1)*es+k)=(l.flatMap enc).drop (i*es+k):=by
    rw[List.flatMap_cons,show(i+1)*es+k=(enc c).length+(i*es+k) by rw[he,Nat.add_mul];omega,List.drop_append,List.drop_eq_nil_of_le om,Nat.add_sub_cancel_left,List.nil_append]
   rw[e];exact ih i (by simpa using hi)
theorem Rows.ext{α:Type}{enc:α->List Value}{es:Nat}{h h':af}{a:Option Addr}{n:Nat}{l:List α}(p:Rows enc es h a n l)(e:Ext h h'):Rows enc es h' a n l:=⟨p.cells.ext e,p.each,p.pos⟩
theorem Rows.len{α:Type}{enc:α->List Value}{es:Nat}{h:af}{a:Option Addr}{n:Nat}{l:List α}(p:Rows enc es h a n l):l.length=n:=by
 have h1:=p.cells.length;rw[dG p.each]at h1;exact Nat.eq_of_mul_eq_mul_right p.pos h1
theorem Rows.at{α:Type}[Inhabited α]{enc:α->List Value}{es:Nat}{h:af}{a:Option Addr}{n:Nat}{l:List α}(p:Rows enc es h a n l){i:Int}(h0:0<=i)(hi:i<n) :
  ∃b o,a=some ⟨b,o,none⟩/\b<h.next/\∀k m,k+m<=es->0<m->h.aM ⟨b,o+i.toNat*es+k,none⟩ m=some (((enc (gt l i)).drop k).take m):=by
 have hl:=p.len;have hm:∀k m,k+m<=es->i.toNat*es+k+m<=n*es:=fun k m hk=>by
  have:(i.toNat+1)*es<=n*es:=Nat.mul_le_mul_right _ om;rw[Nat.add_mul]at this;omega
 obtain⟨b,o,h1,h2,_⟩:=p.cells.at (i:=i.toNat*es+0) (m:=es) (hm 0 es om) p.pos;refine⟨b,o,h1,h2,fun k m hk hp=>?_⟩;obtain⟨b',o',tz,_,h3'⟩:=p.cells.at (i:=i.toNat*es+k) (m:=m) (hm k m hk) hp;rw[h1]at tz;cases tz;rw[Nat.add_assoc,h3',GY p.each l i.toNat om k m hk];rfl
theorem bW.rows{α:Type}{enc:α->List Value}{es:Nat}{h:af}{b:Nat}{l:List α}(c:bW h b es (l.flatMap enc))(he:∀x,(enc x).length=es)(hp:0<es)(hb:b<h.next):Rows enc es h (some ⟨b,0,none⟩) l.length l:=by
 refine⟨⟨rfl,hb,?_⟩,he,hp⟩;have:=c.aM (o:=0) (n:=l.length*es) (by rw[dG he];omega);rw[this,List.drop_zero,List.take_of_length_le (by rw[dG he];omega)]
theorem Rows.nil{α:Type}{enc:α->List Value}{es:Nat}(h:af)(he:∀x,(enc x).length=es)(hp:0<es):Rows enc es h none 0 []:=⟨⟨rfl,rfl⟩,he,hp⟩
theorem bW.setRow{α:Type}[Inhabited α]{enc:α->List Value}{es:Nat}{h:af}{b:Nat}{l:List α}(c:bW h b es (l.flatMap enc))(he:∀x,(enc x).length=es){i:Nat}(hi:i<l.length)(x:α):∃h',h.write b (i*es) (enc x)=some h'/\bW h' b es ((l.set i x).flatMap enc)/\jf h h' b:=by
 have hle:(i+1)*es<=l.length*es:=Nat.mul_le_mul_right _ om;rw[Nat.add_mul]at hle;obtain⟨h',w1,w2,w3⟩:=c.write (o:=i*es) (vs:=enc x) (by rw[dG he,he];omega);refine⟨h',w1,?_,w3⟩;have e:∀(l:List α) (i:Nat),i<l.length->(l.flatMap enc).take (i*es)++(enc x++(l.flatMap enc).drop (i*es+(enc x).length))=(l.set i x).flatMap enc:=by
  intro l
  induction l with
  |nil=>intro i hi;simp at hi
  |cons c l ih=>
   intro i hi;cases i with
   |zero=>
    rw[List.set_cons_zero,List.flatMap_cons,List.flatMap_cons,Nat.zero_mul,Nat.zero_add,List.take_zero,List.nil_append,he,<-he c,List.drop_left]
   |succ i=>
    rw[List.set_cons_succ,List.flatMap_cons,List.flatMap_cons,show(i+1)*es=(enc c).length+i*es by rw[he,Nat.add_mul];omega,List.take_length_add_append,Nat.add_assoc,List.drop_length_add_append,List.append_assoc];rw[ih i (by simpa using hi)]
 rw[<-e l i hi];exact w2
set_option maxRecDepth 100000
def rq(n d:Int):Rat:=(n:Rat) / (d:Rat)
theorem okF.is{n d:Int}(h:okF n d):jC n d (rq n d):=by
 obtain⟨q,hq⟩:=h;have:=hq.val;unfold rq;rw[<-this];exact hq
theorem jC.rq{n d:Int}{q:Rat}(h:jC n d q):rq n d=q:=h.val.symm
theorem jC.ok{n d:Int}{q:Rat}(h:jC n d q):okF n d:=⟨q,h⟩
theorem P8{n:Int}(h0:-1000000000000000000<=n)(h1:n<=1000000000000000000):jC n 1 (n:Rat):=⟨(Rat.num_intCast n).symm,by rw[Rat.den_intCast];rfl,by rw[Rat.num_intCast];exact h0,by rw[Rat.num_intCast];exact h1,by rw[Rat.den_intCast];decide⟩
theorem Ip{f:Rat->Rat->Rat}{n d m e a b r:Int}{p q:Rat}(hp:jC n d p)(hq:jC m e q)(hf:fits (f p q))(k:Eo f n d m e a b r):jC a b (f p q)/\r=0:=by
 rcases k with ⟨w,_⟩|⟨p',q',sZ,Ad,k⟩
 ·exact absurd ⟨⟨p,hp⟩,⟨q,hq⟩⟩ w
 ·obtain rfl:=hp.uniq sZ
  obtain rfl:=hq.uniq Ad;rcases k with ⟨_,rfl,rfl,rfl⟩|⟨w,_⟩
  ·exact⟨⟨rfl,rfl,hf⟩,rfl⟩
  ·exact absurd hf w
theorem aaz{α β:Type}[Inhabited α][Inhabited β](f:α->β)(l:List α){i:Int}(h0:0<=i)(h1:i<l.length):gt (l.map f) i=f (gt l i):=by
 unfold gt;rw[List.getD,List.getD,List.getElem?_map,List.getElem?_eq_getElem om];rfl
theorem Cq{α:Type}[Inhabited α](l:List α){i j:Int}(hi:0<=i)(hj:0<=j)(hl:i<l.length)(x:α):gt (l.set i.toNat x) j=if j=i then x else gt l j:=by
 unfold gt;rw[List.getD_eq_getElem?_getD,List.getD_eq_getElem?_getD,List.getElem?_set];by_cases e:j=i
 ·subst e;rw[if_pos rfl,if_pos om,if_pos rfl];rfl
 ·rw[if_neg om,if_neg e]
theorem ME{α:Type}[Inhabited α](l:List α){i:Int}(h0:0<=i)(h1:i<l.length):gt l i∈l:=by
 have h2:i.toNat<l.length:=om
 unfold gt;rw[List.getD_eq_getElem?_getD,List.getElem?_eq_getElem h2];exact List.getElem_mem ..
structure K8{α:Type}(le:α->α->Prop):Prop where
 refl:∀x,le x x
 trans:∀x y z,le x y->le y z->le x z
 total:∀x y,le x y\/le y x
theorem K8.TJ{α:Type}{le:α->α->Prop}(h:K8 le){x y:α}(w:¬le x y):le y x:=(h.total x y).resolve_left w
section
variable{α:Type}[Inhabited α]
def dJ(L:List α)(i j:Int):List α:=(L.set i.toNat (gt L j)).set j.toNat (gt L i)
theorem MF(L:List α)(i j:Int):(dJ L i j).length=L.length:=by unfold dJ;rw[List.length_set,List.length_set]
theorem jD(L:List α){i j k:Int}(i0:0<=i)(i1:i<L.length)(j0:0<=j)(j1:j<L.length)(k0:0<=k):gt (dJ L i j) k=if k=j then gt L i else if k=i then gt L j else gt L k:=by
 unfold dJ;rw[Cq _ j0 k0 (by rw[List.length_set];exact j1),Cq _ i0 k0 i1]
theorem count_set(L:List α)(p:α->Bool){i:Int}(i0:0<=i)(i1:i<L.length)(x:α):(L.set i.toNat x).countP p+(if p (gt L i)=true then 1 else 0)=L.countP p+if p x=true then 1 else 0:=by
 have h2:i.toNat<L.length:=om
 have e:gt L i=L[i.toNat]:=by
  unfold gt;rw[List.getD_eq_getElem?_getD,List.getElem?_eq_getElem h2];rfl
 rw[e,List.countP_set h2];by_cases c:p L[i.toNat]=true
 ·have:0<L.countP p:=List.countP_pos_iff.2 ⟨_,List.getElem_mem h2,c⟩
  by_cases d:p x=true<;>simp[c,d]<;>omega
 ·by_cases d:p x=true<;>simp[c,d]
theorem GZ(L:List α)(p:α->Bool){i j:Int}(i0:0<=i)(i1:i<L.length)(j0:0<=j)(j1:j<L.length):(dJ L i j).countP p=L.countP p:=by
 unfold dJ;have h1:=count_set L p i0 i1 (gt L j);have h2:=count_set (L.set i.toNat (gt L j)) p (i:=j) j0 (by rw[List.length_set];exact j1) (gt L i);rw[Cq L i0 j0 i1]at h2;by_cases e:j=i
 ·subst e
  rw[if_pos rfl]at h2;omega
 ·rw[if_neg e]at h2
  omega
structure aJ(a b:Int)(L L':List α):Prop where
 len:L'.length=L.length
 out:∀j:Int,0<=j->(j<a\/b<=j)->gt L' j=gt L j
 all:∀P:α->Prop,(∀j:Int,a<=j->j<b->P (gt L j))->∀j:Int,a<=j->j<b->P (gt L' j)
 s7:∀p:α->Bool,L'.countP p=L.countP p
theorem aJ.refl(a b:Int)(L:List α):aJ a b L L:=⟨rfl,fun _ _ _=>rfl,fun _ h=>h,fun _=>rfl⟩
theorem aJ.trans{a b:Int}{L M N:List α}(h:aJ a b L M)(k:aJ a b M N):aJ a b L N:=
 ⟨k.len.trans h.len,fun j j0 q=>(k.out j j0 q).trans (h.out j j0 q),fun P w=>k.all P (h.all P w),fun p=>(k.s7 p).trans (h.s7 p)⟩
theorem aJ.wide{a b a' b':Int}{L M:List α}(h:aJ a' b' L M)(a0:0<=a)(ha:a<=a')(hb:b'<=b):aJ a b L M:=by
 refine⟨h.len,fun j j0 q=>h.out j j0 om,fun P w j ja jb=>?_,h.s7⟩;by_cases c:a'<=j/\j<b'
 ·exact h.all P (fun k k0 k1=>w k om om) j c.1 c.2
 ·rw[h.out j om om]
  exact w j ja jb
theorem aJ.swap{a b:Int}(L:List α){i j:Int}(a0:0<=a)(hb:b<=L.length)(i0:a<=i)(i1:i<b)(j0:a<=j)(j1:j<b):aJ a b L (dJ L i j):=by
 refine⟨MF L i j,fun k k0 q=>?_,fun P w k k0 k1=>?_,fun p=>GZ L p om om om om⟩
 ·rw[jD L om om om om k0,if_neg om,if_neg om]
 ·rw[jD L om om om om om]
  split
  ·exact w i i0 i1
  ·split
   ·exact w j j0 j1
   ·exact w k k0 k1
variable{le:α->α->Prop}
def aI(le:α->α->Prop)(L:List α)(a b:Int):Prop:=∀p q:Int,a<=p->p<q->q<b->le (gt L p) (gt L q)
def pA(le:α->α->Prop)(L:List α)(a b j:Int):Prop:=∀p q:Int,a<=p->p<q->q<=b->q≠j->le (gt L p) (gt L q)
theorem pA.start{L:List α}{a i:Int}(h:aI le L a i):pA le L a i i:=fun p q p0 pq q1 qj=>h p q p0 pq om
theorem pA.first{L:List α}{a i:Int}(h:pA le L a i a):aI le L a (i+1):=fun p q p0 pq q1=>h p q p0 pq om om
theorem pA.stop(hp:K8 le){L:List α}{a i j:Int}(h:pA le L a i j)(ja:a<j)(w:le (gt L (j-1)) (gt L j)):aI le L a (i+1):=by
 intro p q p0 pq q1;by_cases e:q=j
 ·subst e
  by_cases e2:p=q-1
  ·rw[e2];exact w
  ·exact hp.trans _ _ _ (h p (q-1) p0 om om om) w
 ·exact h p q p0 pq om e
theorem pA.step(hp:K8 le){L:List α}{a i j:Int}(a0:0<=a)(hl:i<L.length)(h:pA le L a i j)(ja:a<j)(ji:j<=i)(w:¬le (gt L (j-1)) (gt L j)):pA le (dJ L j (j-1)) a i (j-1):=by
 have w':=hp.TJ w;have g:∀k:Int,0<=k->gt (dJ L j (j-1)) k=if k=j-1 then gt L j else if k=j then gt L (j-1)else gt L k:=fun k k0=>jD L om om om om k0
 intro p q p0 pq q1 qj;rw[g p om,g q om,if_neg (show ¬q=j-1 from qj)];by_cases e:q=j
 ·rw[if_pos e]
  by_cases e2:p=j-1
  ·rw[if_pos e2];exact w'
  ·rw[if_neg e2,if_neg (show ¬p=j by omega)]
   exact h p (j-1) p0 om om om
 ·rw[if_neg e]
  by_cases e2:p=j-1
  ·rw[if_pos e2]
   exact h j q om om q1 e
  ·rw[if_neg e2]
   by_cases e3:p=j
   ·rw[if_pos e3]
    exact h (j-1) q om om q1 e
   ·rw[if_neg e3]
    exact h p q p0 pq q1 e
end
section
variable{α:Type}[Inhabited α]{le:α->α->Prop}
def par(k:Int):Int:=(k-1) / 2
theorem Cr{k r:Int}(h:par k=r)(k0:0<k):k=2*r+1\/k=2*r+2:=by unfold par at h;omega
theorem zd{k:Int}(k0:0<k):0<=par k/\par k<k:=by unfold par;omega
def ng(le:α->α->Prop)(L:List α)(f lo hi:Int):Prop:=∀k:Int,0<k->k<hi->lo<=par k->le (gt L (f+k)) (gt L (f+par k))
structure pB(le:α->α->Prop)(L:List α)(f lo hi r:Int):Prop where
 rest:∀k:Int,0<k->k<hi->lo<=par k->par k≠r->le (gt L (f+k)) (gt L (f+par k))
 over:∀k:Int,0<k->k<hi->par k=r->0<r->lo<=par r->le (gt L (f+k)) (gt L (f+par r))
theorem pB.start{L:List α}{f lo hi:Int}(l0:0<=lo)(h:ng le L f (lo+1) hi):pB le L f lo hi lo:=
 ⟨fun k k0 k1 k2 k3=>h k k0 k1 om,fun k k0 k1 k2 r0 k3=>by have:=zd r0;omega⟩
theorem pB.leaf{L:List α}{f lo hi r:Int}(h:pB le L f lo hi r)(hc:hi<=2*r+1):ng le L f lo hi:=fun k k0 k1 k2=>by
 by_cases e:par k=r
 ·have:=Cr e k0;omega
 ·exact h.rest k k0 k1 k2 e
theorem pB.stop(hp:K8 le){L:List α}{f lo hi r c:Int}(h:pB le L f lo hi r)(hc:∀k:Int,0<k->k<hi->par k=r->le (gt L (f+k)) (gt L (f+c)))(w:le (gt L (f+c)) (gt L (f+r))):ng le L f lo hi:=fun k k0 k1 k2=>by
 by_cases e:par k=r
 ·rw[e];exact hp.trans _ _ _ (hc k k0 k1 e) w
 ·exact h.rest k k0 k1 k2 e
theorem pB.step(hp:K8 le){L:List α}{f lo hi r c:Int}(f0:0<=f)(l0:0<=lo)(hl:f+hi<=L.length)(r0:lo<=r)(cr:c=2*r+1\/c=2*r+2)(c1:c<hi)(h:pB le L f lo hi r)(hc:∀k:Int,0<k->k<hi->par k=r->le (gt L (f+k)) (gt L (f+c)))(w:le (gt L (f+r)) (gt L (f+c))) :
  pB le (dJ L (f+r) (f+c)) f lo hi c:=by
 have cp:par c=r:=by unfold par;omega
 have g:∀k:Int,0<=k->gt (dJ L (f+r) (f+c)) (f+k)=if k=c then gt L (f+r)else if k=r then gt L (f+c)else gt L (f+k):=fun k k0=>by
  rw[jD L om om om om om];by_cases e1:k=c
  ·rw[if_pos om,if_pos e1]
  ·rw[if_neg om,if_neg e1]
   by_cases e2:k=r
   ·rw[if_pos om,if_pos e2]
   ·rw[if_neg om,if_neg e2]
 refine⟨fun k k0 k1 k2 k3=>?_,fun k k0 k1 k2 c0 k3=>?_⟩
 ·have pk:=zd k0
  rw[g k om,g (par k) om,if_neg k3];by_cases e:par k=r
  ·rw[if_pos e]
   by_cases e2:k=c
   ·rw[if_pos e2];exact w
   ·rw[if_neg e2,if_neg om]
    exact hc k k0 k1 e
  ·rw[if_neg e,if_neg (fun q=>e (by rw[q];exact cp))]
   by_cases e2:k=r
   ·subst e2
    rw[if_pos rfl];exact h.over c om c1 cp k0 k2
   ·rw[if_neg e2]
    exact h.rest k k0 k1 k2 e
 ·rw[g k om,g (par c) (by rw[cp];omega),cp]
  have:=zd k0;rw[if_neg om,if_neg om,if_neg om,if_pos rfl];have:=h.rest k k0 k1 om om;rw[k2]at this;exact this
theorem ng.top(hp:K8 le){L:List α}{f hi:Int}(h:ng le L f 0 hi):∀(n:Nat) (k:Int),k.toNat<=n->0<=k->k<hi->le (gt L (f+k)) (gt L (f+0)):=by
 intro n
 induction n with
 |zero=>intro k hk k0 k1;rw[show k=0 by omega];exact hp.refl _
 |succ n ih=>
  intro k hk k0 k1;by_cases e:k=0
  ·rw[e];exact hp.refl _
  ·have pk:=zd (k:=k) om
   exact hp.trans _ _ _ (h k om k1 pk.1) (ih (par k) om pk.1 om)
structure MG(le:α->α->Prop)(L:List α)(f i b:Int):Prop where
 heap:ng le L f 0 (i-f)
 up:aI le L i b
 Bh:∀p q:Int,f<=p->p<i->i<=q->q<b->le (gt L p) (gt L q)
theorem MG.swap(hp:K8 le){L:List α}{f i b:Int}(f0:0<=f)(hl:b<=L.length)(h:MG le L f (i+1) b)(i0:f<=i)(i1:i<b) :
  pB le (dJ L f i) f 0 (i-f) 0/\aI le (dJ L f i) i b/\∀p q:Int,f<=p->p<i->i<=q->q<b->le (gt (dJ L f i) p) (gt (dJ L f i) q):=by
 have g:∀k:Int,0<=k->gt (dJ L f i) k=if k=i then gt L f else if k=f then gt L i else gt L k:=fun k k0=>jD L om om om om k0
 have top:∀p:Int,f<=p->p<i+1->le (gt L p) (gt L f):=fun p p0 p1=>by
  have:=h.heap.top hp (p-f).toNat (p-f) om om om;rw[show f+(p-f)=p by omega,Int.add_zero]at this;exact this
 refine⟨⟨fun k k0 k1 k2 k3=>?_,fun k k0 k1 k2 r0=>om⟩,fun p q p0 pq q1=>?_,fun p q p0 p1 q0 q1=>?_⟩
 ·have pk:=zd k0
  rw[g _ om,g _ om,if_neg om,if_neg om,if_neg om,if_neg om];exact h.heap k k0 om k2
 ·rw[g p om,g q om,if_neg (show ¬q=i by omega),if_neg (show ¬q=f by omega)]
  by_cases e:p=i
  ·rw[if_pos e];exact h.Bh f q om om om q1
  ·rw[if_neg e,if_neg om]
   exact h.up p q om pq q1
 ·rw[g p om,g q om,if_neg (show ¬p=i by omega)]
  have Y6:∀x,(∃k:Int,f<=k/\k<i+1/\x=gt L k)->le x (if q=i then gt L f else if q=f then gt L i else gt L q):=by
   rintro x ⟨k,k0,k1,rfl⟩;by_cases e:q=i
   ·rw[if_pos e];exact top k k0 k1
   ·rw[if_neg e,if_neg om]
    exact h.Bh k q k0 k1 om q1
  by_cases e:p=f
  ·rw[if_pos e];exact Y6 _ ⟨i,i0,om,rfl⟩
  ·rw[if_neg e];exact Y6 _ ⟨p,p0,om,rfl⟩
theorem aJ.bj{L M:List α}{f i b:Int}(f0:0<=f)(h:aJ f i L M)(fi:f<=i)(up:aI le L i b)(Bh:∀p q:Int,f<=p->p<i->i<=q->q<b->le (gt L p) (gt L q)) :
  aI le M i b/\∀p q:Int,f<=p->p<i->i<=q->q<b->le (gt M p) (gt M q):=by
 constructor
 ·intro p q p0 pq q1
  rw[h.out p om om,h.out q om om];exact up p q p0 pq q1
 ·intro p q p0 p1 q0 q1
  rw[h.out q om om];exact h.all (fun x=>le x (gt L q)) (fun k k0 k1=>Bh k q k0 k1 q0 q1) p p0 p1
theorem aI.join{L:List α}{a m b:Int}(h1:aI le L a m)(h2:aI le L m b)(Bh:∀p q:Int,a<=p->p<m->m<=q->q<b->le (gt L p) (gt L q)):aI le L a b:=by
 intro p q p0 pq q1;by_cases c1:q<m
 ·exact h1 p q p0 pq c1
 ·by_cases c2:p<m
  ·exact Bh p q p0 c2 om q1
  ·exact h2 p q om pq q1
theorem aI.one{L:List α}{a b:Int}(h:b<=a+1):aI le L a b:=fun p q p0 pq q1=>om
end
section
variable{α:Type}[Inhabited α]{le:α->α->Prop}
structure Part(le:α->α->Prop)(L:List α)(a b i j:Int):Prop where
 i0:a<i
 j1:j<b
 ij:i<=j+1
 low:∀p:Int,a<p->p<i->le (gt L p) (gt L a)
 high:∀p:Int,j<p->p<b->le (gt L a) (gt L p)
theorem Part.start(L:List α){a b:Int}(h:a<b):Part le L a b (a+1) (b-1):=⟨om,om,om,fun p p0 p1=>om,fun p p0 p1=>om⟩
theorem Part.left{L:List α}{a b i j:Int}(h:Part le L a b i j)(c:i<=j)(w:le (gt L i) (gt L a)):Part le L a b (i+1) j:=
 ⟨by have:=h.i0;omega,h.j1,om,fun p p0 p1=>by
  by_cases e:p=i
  ·rw[e];exact w
  ·exact h.low p p0 om,h.high⟩
theorem Part.right{L:List α}{a b i j:Int}(h:Part le L a b i j)(c:i<=j)(w:le (gt L a) (gt L j)):Part le L a b i (j-1):=
 ⟨h.i0,by have:=h.j1;omega,om,h.low,fun p p0 p1=>by
  by_cases e:p=j
  ·rw[e];exact w
  ·exact h.high p om p1⟩
theorem Part.swap{L:List α}{a b i j:Int}(a0:0<=a)(hb:b<=L.length)(h:Part le L a b i j)(c:i<j)(w1:le (gt L a) (gt L i))(w2:le (gt L j) (gt L a)):Part le (dJ L i j) a b (i+1) (j-1):=by
 have hi:=h.i0;have hj:=h.j1;have g:∀k:Int,0<=k->gt (dJ L i j) k=if k=j then gt L i else if k=i then gt L j else gt L k:=fun k k0=>jD L om om om om k0
 refine⟨om,om,om,fun p p0 p1=>?_,fun p p0 p1=>?_⟩
 ·rw[g p om,g a a0,if_neg (show ¬p=j by omega),if_neg (show ¬a=j by omega),if_neg (show ¬a=i by omega)]
  by_cases e:p=i
  ·rw[if_pos e];exact w2
  ·rw[if_neg e];exact h.low p p0 om
 ·rw[g p om,g a a0,if_neg (show ¬a=j by omega),if_neg (show ¬a=i by omega)]
  by_cases e:p=j
  ·rw[if_pos e];exact w1
  ·rw[if_neg e,if_neg om];exact h.high p om p1
theorem Part.done{L:List α}{a b i j:Int}(a0:0<=a)(hb:b<=L.length)(h:Part le L a b i j)(c:j<i) :
  (∀p:Int,a<=p->p<j->le (gt (dJ L j a) p) (gt (dJ L j a) j))/\(∀p:Int,j<p->p<b->le (gt (dJ L j a) j) (gt (dJ L j a) p)):=by
 have hi:=h.i0;have hj:=h.j1;have ij:=h.ij;have g:∀k:Int,0<=k->gt (dJ L j a) k=if k=a then gt L j else if k=j then gt L a else gt L k:=fun k k0=>jD L om om om om k0
 have gj:gt (dJ L j a) j=gt L a:=by
  rw[g j om];by_cases e:j=a
  ·rw[if_pos e,e]
  ·rw[if_neg e,if_pos rfl]
 rw[gj];refine⟨fun p p0 p1=>?_,fun p p0 p1=>?_⟩
 ·rw[g p om]
  by_cases e:p=a
  ·rw[if_pos e];exact h.low j om om
  ·rw[if_neg e,if_neg om];exact h.low p om om
 ·rw[g p om,if_neg om,if_neg om]
  exact h.high p p0 p1
structure ze(le:α->α->Prop)(L:List α)(A B a b:Int):Prop where
 s1:aI le L A a
 s2:aI le L b B
 c1:∀p q:Int,A<=p->p<a->a<=q->q<B->le (gt L p) (gt L q)
 c2:∀p q:Int,A<=p->p<b->b<=q->q<B->le (gt L p) (gt L q)
 r0:A<=a
 r1:a<=b
 r2:b<=B
theorem ze.start(L:List α){A B:Int}(h:A<=B):ze le L A B A B:=⟨fun p q p0 pq q1=>om,fun p q p0 pq q1=>om,fun p q p0 p1 q0 q1=>om,fun p q p0 p1 q0 q1=>om,Int.le_refl _,h,Int.le_refl _⟩
theorem ze.perm{L M:List α}{A B a b:Int}(A0:0<=A)(h:ze le L A B a b)(k:aJ a b L M):ze le M A B a b:=by
 have r0:=h.r0;have r1:=h.r1;refine⟨fun p q p0 pq q1=>?_,fun p q p0 pq q1=>?_,fun p q p0 p1 q0 q1=>?_,fun p q p0 p1 q0 q1=>?_,h.r0,h.r1,h.r2⟩
 ·rw[k.out p om om,k.out q om om]
  exact h.s1 p q p0 pq q1
 ·rw[k.out p om om,k.out q om om]
  exact h.s2 p q p0 pq q1
 ·rw[k.out p om om]
  by_cases c:q<b
  ·exact k.all (fun x=>le (gt L p) x) (fun j j0 j1=>h.c1 p j p0 p1 j0 (by have:=h.r2;omega)) q q0 c
  ·rw[k.out q om om]
   exact h.c1 p q p0 p1 q0 q1
 ·rw[k.out q om om]
  by_cases c:a<=p
  ·exact k.all (fun x=>le x (gt L q)) (fun j j0 j1=>h.c2 j q om j1 q0 q1) p c p1
  ·rw[k.out p om om]
   exact h.c2 p q p0 p1 q0 q1
theorem ze.done{L:List α}{A B a b:Int}(h:ze le L A B a b)(s:aI le L a b):aI le L A B:=by
 have r2:=h.r2;refine aI.join (aI.join h.s1 s (fun p q p0 p1 q0 q1=>h.c1 p q p0 p1 q0 om)) h.s2 (fun p q p0 p1 q0 q1=>h.c2 p q p0 p1 q0 q1)
theorem ze.left(hp:K8 le){L M:List α}{A B a b m:Int}(A0:0<=A)(h:ze le L A B a b)(am:a<=m)(mb:m<b)(h1:∀p:Int,a<=p->p<m->le (gt L p) (gt L m))(h2:∀p:Int,m<p->p<b->le (gt L m) (gt L p))(k:aJ a m L M)(s:aI le M a m):ze le M A B (m+1) b:=by
 have r0:=h.r0;have r2:=h.r2;have kw:=k.wide (a:=a) (b:=b) om om om;have hM:=h.perm A0 kw;have m1:∀p:Int,a<=p->p<m->le (gt M p) (gt M m):=fun p p0 p1=>by
  rw[k.out m om om];exact k.all (fun x=>le x (gt L m)) (fun j j0 j1=>h1 j j0 j1) p p0 p1
 have m2:∀q:Int,m<q->q<B->le (gt M m) (gt M q):=fun q q0 q1=>by
  by_cases c:q<b
  ·rw[k.out m om om,k.out q om om]
   exact h2 q q0 c
  ·exact hM.c2 m q om mb om q1
 refine⟨?_,hM.s2,fun p q p0 p1 q0 q1=>?_,hM.c2,om,om,h.r2⟩
 ·refine aI.join (m:=a) hM.s1 (aI.join (m:=m) s (aI.one om) (fun p q p0 p1 q0 q1=>?_)) (fun p q p0 p1 q0 q1=>hM.c1 p q p0 p1 q0 om)
  rw[show q=m by omega];exact m1 p p0 p1
 ·by_cases c:p<a
  ·exact hM.c1 p q p0 c om q1
  ·by_cases e:p=m
   ·rw[e];exact m2 q om q1
   ·exact hp.trans _ _ _ (m1 p om om) (m2 q om q1)
theorem ze.right(hp:K8 le){L M:List α}{A B a b m:Int}(A0:0<=A)(h:ze le L A B a b)(am:a<=m)(mb:m<b)(h1:∀p:Int,a<=p->p<m->le (gt L p) (gt L m))(h2:∀p:Int,m<p->p<b->le (gt L m) (gt L p))(k:aJ (m+1) b L M)(s:aI le M (m+1) b):ze le M A B a m:=by
 have r0:=h.r0;have r2:=h.r2;have kw:=k.wide (a:=a) (b:=b) om om om;have hM:=h.perm A0 kw;have m2:∀q:Int,m<q->q<b->le (gt M m) (gt M q):=fun q q0 q1=>by
  rw[k.out m om om];exact k.all (fun x=>le (gt L m) x) (fun j j0 j1=>h2 j om j1) q om q1
 have m1:∀p:Int,A<=p->p<m->le (gt M p) (gt M m):=fun p p0 p1=>by
  by_cases c:a<=p
  ·rw[k.out m om om,k.out p om om]
   exact h1 p c p1
  ·exact hM.c1 p m p0 om am om
 have c3:∀p q:Int,A<=p->p<=m->m<q->q<B->le (gt M p) (gt M q):=fun p q p0 p1 q0 q1=>by
  by_cases c:q<b
  ·by_cases e:p=m
   ·rw[e];exact m2 q q0 c
   ·exact hp.trans _ _ _ (m1 p p0 om) (m2 q q0 c)
  ·exact hM.c2 p q p0 om om q1
 refine⟨hM.s1,?_,hM.c1,fun p q p0 p1 q0 q1=>?_,om,om,om⟩
 ·refine aI.join (m:=m+1) (aI.one om) (aI.join (m:=b) s hM.s2 (fun p q p0 p1 q0 q1=>hM.c2 p q om p1 q0 q1)) (fun p q p0 p1 q0 q1=>?_)
  exact c3 p q om om om q1
 ·by_cases e:q=m
  ·rw[e];exact m1 p p0 p1
  ·exact c3 p q p0 om om q1
theorem ze.equal{L:List α}{A B a b m:Int}(h:ze le L A B a b)(am:a<=m)(mb:m<=b)(e:∀p q:Int,a<=p->p<m->a<=q->q<b->le (gt L p) (gt L q)):ze le L A B m b:=by
 have r0:=h.r0;have r2:=h.r2;refine⟨aI.join (m:=a) h.s1 (fun p q p0 pq q1=>e p q p0 om om om) (fun p q p0 p1 q0 q1=>h.c1 p q p0 p1 q0 om),h.s2,fun p q p0 p1 q0 q1=>?_,h.c2,om,om,h.r2⟩;by_cases c:p<a
 ·exact h.c1 p q p0 c om q1
 ·by_cases d:q<b
  ·exact e p q om p1 om d
  ·exact h.c2 p q p0 om om q1
end
theorem Ep(h:af)(n:Nat){b:Nat}(hb:h.next<=b)(es:Nat)(cs:List Value):Ext h ((h.aG n).putAt b es cs):=
 ⟨by simp[af.aG,af.putAt],fun l=>by simp only[af.aG,af.putAt];omega,by simp only[af.aG,af.putAt];exact Nat.min_le_left _ _,fun i hi=>by
  simp only[af.aG,af.putAt];rw[cW.aR _ _ om]⟩
theorem mc{α:Type}{enc:α->List Value}(fD:∀x,(enc x).all aE=true)(l:List α):(l.flatMap enc).all aE=true:=by
 rw[List.all_flatMap];simp only[fD,List.all_eq_true,implies_true]
theorem J8{a b:Nat}(h:a≠b):Nat.beq a b=false:=by
 cases q:Nat.beq a b with
 |false=>rfl
 |true=>exact absurd (Nat.eq_of_beq_eq_true q) h
end Go.Proofs.Ytdpbiegfljmhmaa
namespace Go.cY
theorem Cells.part{h:af}{a:Option Addr}{n es:Nat}{cells:List Value}(c:Cells h a n es cells){i m:Nat}(hi:i+m<=n):Cells h (a.map (fV · (i*es))) m es ((cells.drop (i*es)).take (m*es)):=by
 have hlen:=c.length;have hm:i*es+m*es<=n*es:=by rw[<-Nat.add_mul];exact Nat.mul_le_mul_right es hi
 cases a with
 |none=>
  obtain⟨rfl,rfl⟩:=c;exact⟨om,by simp⟩
 |some ad=>
  obtain⟨h1,h2,h3⟩:=c;obtain⟨b,o,sp⟩:=ad;simp only at h1;subst h1;refine⟨rfl,h2,?_⟩;unfold af.aM fV at *;simp only[]at h3 ⊢;split at h3
  ·rename_i cs wL
   obtain⟨e1,e2⟩:=Ej h3;refine oH ?_ ?_
   ·subst e1
    rw[List.drop_take,List.take_take,List.drop_drop,Nat.min_eq_left om]
   ·simp only[List.length_take,List.length_drop];omega
  ·cases h3
theorem Cells.head{h:af}{a:Option Addr}{n es:Nat}{cells:List Value}(c:Cells h a n es cells){m:Nat}(hm:m<=n):Cells h a m es (cells.take (m*es)):=by
 have:=c.part (i:=0) (m:=m) om;rw[Nat.zero_mul,List.drop_zero]at this;cases a with
 |none=>exact this
 |some ad=>exact this
theorem G1{α:Type}{enc:α->List Value}{es:Nat}(he:∀x,(enc x).length=es)(l:List α)(k:Nat):(l.flatMap enc).take (k*es)=(l.take k).flatMap enc:=by
 induction l generalizing k with
 |nil=>simp
 |cons x l ih=>
  cases k with
  |zero=>simp
  |succ k=>rw[List.flatMap_cons,List.take_succ_cons,List.flatMap_cons,List.take_append,he,List.take_of_length_le (by rw[he,Nat.succ_mul];omega),show(k+1)*es-es=k*es by rw[Nat.succ_mul];omega,ih]
def vj(P:Program)(h:af)(e es:Nat)(a:Option Addr)(n c:Nat)(news:List Value):Prop:=iW P h e es false (.slice a n c)=some (n,news)/\news.length=n*es
theorem vj.of{P:Program}{h:af}{e es:Nat}{a:Option Addr}{n:Nat}{news:List Value}(c:Nat)(hs:Cells h a n es news):vj P h e es a n c news:=by
 refine⟨?_,hs.length⟩;unfold iW;simp only[cond_false];cases a with
 |none=>obtain⟨rfl,rfl⟩:=hs;simp
 |some ad=>
  obtain⟨h1,h2,h3⟩:=hs;simp only[h3]
theorem vj.nothing(P:Program)(h:af)(e es:Nat)(x c:Nat):vj P h e es (some ⟨0,0,some x⟩) 0 c []:=by
 refine⟨?_,by simp⟩;unfold iW af.aM;rfl
theorem Er{P:Program}{t t2 e es:Nat}(hT:fx P t e es)(GR:P.underlying t2=some (.slice e)){h:af}{b n c n2 c2:Nat}{a2:Option Addr}{cells news:List Value}(hp:GS h es b n c cells)(hs:vj P h e es a2 n2 c2 news)(fD:cells.all aE=true)(pG:news.all aE=true)(tv:n+n2<=1000000) :
  ∃b' c' h',cF P h [t,t2] [.slice (some ⟨b,0,none⟩) n c,.slice a2 n2 c2]=some (.slice (some ⟨b',0,none⟩) (n+n2) c',h')/\GS h' es b' (n+n2) c' (cells++news)/\h.next<=h'.next/\(b'=b\/h.next<=b')/\(∀j,j<h.next->j≠b->h'.m.get j=h.m.get j)/\(∀h0,Ext h0 h->h0.next<=b->Ext h0 h'/\h0.next<=b'):=by
 obtain⟨ho,hb,hl,hc⟩:=hp;obtain⟨by_,rj,mU⟩:=hT.bytes;obtain⟨z,hz,wV⟩:=hT.zero;obtain⟨gH,sh⟩:=hs;have JJ:cL c=n:=by
  rcases hc with ⟨rfl,rfl⟩|rfl
  ·rfl
  ·exact cA (by unfold aP;omega)
 unfold cF;simp only[hT.vR,hT.size,rj,GR,hz,cX,gH];rw[JJ];by_cases h0:n2=0
 ·subst h0
  have:news=[]:=by simpa using sh
  subst this;obtain⟨h',hw,my,n8⟩:=ho.write (o:=n*es) (vs:=[]) (by simp;omega);have TB:h.gP (fV ⟨b,0,none⟩ (n*es)) []=some h':=by
   unfold af.gP fV;simp only[List.all_nil,cond_true,Nat.zero_add];exact hw
  rw[bq (show n+0<=n by omega)];simp only[cond_true,TB];have e2:cells.take (n*es)++([]++cells.drop (n*es+([]:List Value).length))=cells:=by simp
  rw[e2]at my;exact⟨b,c,h',rfl,⟨by simpa using my,by rw[n8.next];exact hb,by simpa using hl,hc⟩,by rw[n8.next];exact Nat.le_refl _,.inl rfl,fun j _ j1=>n8.get j j1,fun h0 e0 mw=>⟨n8.ext e0 mw,mw⟩⟩
 ·rw[dU om]
  simp only[cond_false];rw[bq (show n+n2<=1073741824 by omega),bq mU,pG,wV,sh];simp only[Bool.and_self,Nat.beq_refl,cond_true];have hr:h.aM ⟨b,0,none⟩ (n*es)=some cells:=by rw[ho.aM om];simp[<-hl]
  simp only[hr];rcases hc with ⟨rfl,rfl⟩|rfl
  ·rw[dN (show 0<aP by unfold aP;omega),fD]
   simp only[cond_true];refine⟨_,_,_,rfl,⟨bW.push _ _ _,by simp[af.push],by simp[hl,sh],.inr rfl⟩,by simp[af.push],.inr (Nat.le_refl _),fun j j0 _=>(Ext.push h es _).get j j0,fun h0 e0 mw=>⟨e0.trans (.push _ _ _),e0.next⟩⟩
  ·rw[cM (dE es n),fD]
   simp only[cond_false,cond_true];rw[show h.m.get b=some (.live true es cells)from ho];simp only[Nat.beq_refl,cond_true];refine⟨_,_,_,rfl,⟨bW.push (h.kill b) es _,by simp[af.push,af.kill],by simp[hl,sh,Nat.add_mul],.inr rfl⟩,by simp[af.push,af.kill],.inr (Nat.le_refl _),fun j j0 j1=>?_,fun h0 e0 mw=>⟨(e0.kill mw).trans (.push _ _ _),?_⟩⟩
   ·have k1:(h.kill b).m.get j=h.m.get j:=by unfold af.kill;simp only[];rw[cW.aR _ _ (fun q=>j1 q.symm)]
    rw[<-k1];exact(Ext.push (h.kill b) es _).get j (by unfold af.kill;exact j0)
   ·exact e0.next
end Go.cY
namespace Go.Proofs.Ytdpbiegfljmhmaa
open Go.cY
set_option maxRecDepth 100000
theorem mixed:Try.prog.follows .mixedOrders=true:=by kernel_rfl
theorem names : Try.prog.funcs.toList.all (fun fn => !(fn.name == "runtime.NumGoroutine")) = true := by kernel_rfl
theorem named(g : FuncId)(fn : Func)(h : Try.prog.funcs[g]? = some fn) : (fn.name == "runtime.NumGoroutine") = false := by
 have:=List.all_eq_true.1 names fn (List.mem_of_getElem? (by simpa using h));simpa using this
noncomputable def TK:Code:=Try.f100.body.getD .skip
theorem wX:Try.f100.body=some TK:=by kernel_rfl
theorem zf:fx Try.prog 22 27 1:=⟨by kernel_rfl,by kernel_rfl,⟨24,by kernel_rfl,om⟩,⟨.slice none 0 0,by kernel_rfl,rfl⟩⟩
theorem zLL:iw Try.prog 27=some (.slice none 0 0):=by kernel_rfl
theorem uI:Try.prog.underlying 3=some (.int .i64):=by kernel_rfl
theorem sL(v:Value):∀n,bF [v] n=List.replicate n v
 |0=>rfl
 |n+1=>by simp only[bF,List.replicate_succ,sL v n];rfl
theorem Cs{h:af}{b i n M:Nat}{J:Int}(eJ:J=M){cs:List Value}(hm:bW h b 1 cs)(hl:cs.length=n)(hi:i<n)(hM:i+M=n+1)(hn:n<=1000)(fD:cs.all aE=true) :
  cF Try.prog h [22,3] [.slice (some ⟨b,0,none⟩) i n,.int .i64 J]=some (.slice (some ⟨h.next,0,none⟩) (n+1) (az 1 (n+1)),h.push 1 (cs.take i++List.replicate M (.slice none 0 0))):=by
 subst eJ;have hT:=zf;obtain⟨by_,rj,mU⟩:=hT.bytes;have hs:n<aP:=by unfold aP;omega
 have gH:iW Try.prog h 27 1 true (.int .i64 (M:Int))=some (M,List.replicate M (.slice none 0 0)):=by
  unfold iW;simp only[zLL,rj,cond_true];rw[if_pos ⟨om,om,mU,rfl⟩];show some (_,bF [.slice none 0 0] _)=_;rw[sL];rfl
 have hr:h.aM ⟨b,0,none⟩ i=some (cs.take i):=by rw[hm.aM om];simp
 have Gx:(List.replicate M (Value.slice none 0 0)).all aE=true:=by simp[aE]
 have WW:(cs.take i).all aE=true:=by
  rw[List.all_eq_true]at fD ⊢;exact fun v hv=>fD v (List.mem_of_mem_take hv)
 unfold cF;simp only[hT.vR,hT.size,rj,uI,zLL,cX,gH,fE hs];rw[dU om,bq (show i+M<=1073741824 by omega),bq mU];simp only[cond_false,cond_true,hr,Gx,WW,dN hs,Bool.and_self,Bool.true_and,hM,List.length_replicate,Nat.mul_one,Nat.beq_refl,show(Value.slice none 0 0).cells.toList.length.beq 1=true from rfl]
theorem tO{h:af}{b o m k c ns cp:Nat}{xs l:List Value}{a:Addr}(ho:bW h b 1 xs)(hk:Nat.min ns m=k)(hr:h.aM a k=some l)(hl:l.length=k)(hox:o+k<=xs.length)(fD:l.all aE=true) :
  ∃h',te Try.prog h [22,22] [.slice (some ⟨b,o,none⟩) m c,.slice (some a) ns cp]=some (.int .i64 (k:Nat),h')/\bW h' b 1 (xs.take o++(l++xs.drop (o+k)))/\jf h h' b:=by
 obtain⟨h',w1,w2,w3⟩:=ho.write (o:=o) (vs:=l) om;rw[hl]at w2;refine⟨h',?_,w2,w3⟩;unfold te;simp only[zf.vR,zf.size,hk,Nat.mul_one,hr];unfold af.gP;simp only[fD,cond_true,w1]
variable{F:bk}{call head arith cmp b0 gM d0 g0 m0 n0 o0 ofNat s0 t0 u0 nz v0 rd wr push next w0 nat x0 y0 z0 a1 Ec b1 d1 part app f1 putAt fresh aw aG g1 bT lt ne l1 t1 u1 yn v1 y1 d2 f2 bytes g2:_}(hA:AP F ⟨call,head,arith,cmp,b0,gM,d0,g0,m0,n0,o0,ofNat,s0,t0,u0,nz,v0,rd,wr,push,next,w0,nat,x0,y0,z0,a1,Ec,b1,d1,part,app,f1,putAt,fresh,aw,aG,g1,bT,lt,ne,l1,t1,u1,yn,v1,y1,d2,f2,bytes,g2⟩)
include hA
theorem TL{h:af}(aq:h.low<=h.next){n:Int}{Q:Value->af->Prop}(hQ:Q (.agg #[.int .i64 n,.int .i64 1]) h):call 35 [.int .i64 n] h Q:=by
 refine hA.aU Try.func35 x35.2 (hA.alike _ _ _ rfl) aq (zc ?_);exact hQ
theorem Iq{t e es:Nat}(hT:fx Try.prog t e es){α:Type}{enc:α->List Value}(he:∀x,(enc x).length=es)(GA:0<es)(fD:∀x,(enc x).all aE=true){h:af}{a:Option Addr}{n c:Nat}{l:List α}{v:α}(hp:lE h es a n c (l.flatMap enc))(hn:n<=100000){C:Option Addr->Nat->Nat->af->Prop}
  (hC:∀a' c' h',lE h' es a' (n+1) c' ((l++[v]).flatMap enc)->(∀h0,Ext h0 h->iJ h0.next a->Ext h0 h'/\iJ h0.next a')->C a' (n+1) c' h') :
  app [t,t] [.slice a n c,.slice (some ⟨next h,0,none⟩) 1 1] (push h es (enc v)) C:=by
 rw[sz hA,dB hA,cQ hA];have hs:Cells (h.push es (enc v)) (some ⟨h.next,0,none⟩) 1 es (enc v):=⟨rfl,by simp[af.push],by rw[(bW.push h es _).aM (by rw[he];omega),List.drop_zero,List.take_of_length_le (by rw[he];omega)]⟩;have Gx:(l.flatMap enc).all aE=true:=by
  rw[List.all_flatMap];simp only[fD,List.all_eq_true,implies_true]
 obtain⟨a',c',h',h1,h2,h3⟩:=Be hT hT.vR (c2:=1) (hp.ext (.push h es (enc v))) hs Gx (fD v) om om;refine⟨a',n+1,c',h',h1,hC a' c' h' (by simpa using h2) (fun h0 e0 f0=>h3 h0 (e0.trans (.push _ _ _)) f0)⟩
theorem Ir{t e es:Nat}(hT:fx Try.prog t e es){α:Type}{enc:α->List Value}(he:∀x,(enc x).length=es)(GA:0<es)(fD:∀x,(enc x).all aE=true){h0 h h9:af}(aq:h0.low<=h0.next)(e0:Ext h0 h){N k:Nat}(hk:k<N)(iF:h9=aG h N)
  {a:Option Addr} {n c:Nat} {l:List α} {v:α} (hp:lE h es a n c (l.flatMap enc)) (hf:iJ h0.next a) (hn:n<=100000) {C:Option Addr->Nat->Nat->af->Prop}
  (hC:∀a' c' h',lE (aw (putAt h9 (bT (next h) k) es (enc v)) h') es a' (n+1) c' ((l++[v]).flatMap enc)->iJ h0.next a'->Ext h0 (aw (putAt h9 (bT (next h) k) es (enc v)) h')->C a' (n+1) c' h') :
  app [t,t] [.slice a n c,.slice (some ⟨bT (next h) k,0,none⟩) 1 1] (fresh (putAt h9 (bT (next h) k) es (enc v))) C:=by
 rw[kI hA]at iF;subst iF;rw[cZ hA,cQ hA,Is hA]at hC ⊢;rw[iq hA];have x1:Ext h ((h.aG N).putAt (h.next+k) es (enc v)):=Ep h N om es _;have o1:=bW.putAt (h.aG N) (h.next+k) es (enc v);have n1:((h.aG N).putAt (h.next+k) es (enc v)).next=h.next+N:=rfl;generalize (h.aG N).putAt (h.next+k) es (enc v)=X at *;have xf:=x1.trans (Ext.cP X);have o2:bW X.cP (h.next+k) es (enc v):=o1.ext (Ext.cP X) om;have hs:Cells X.cP (some ⟨h.next+k,0,none⟩) 1 es (enc v):=⟨rfl,by show h.next+k<X.next;omega,by rw[o2.aM (by rw[he];omega),List.drop_zero,List.take_of_length_le (by rw[he];omega)]⟩;obtain⟨a',c',h',h1,h2,h3⟩:=Be hT hT.vR (c2:=1) (hp.ext xf) hs (mc fD l) (fD v) om om;obtain⟨w1,w2⟩:=h3 h0 (e0.trans xf) hf;rw[sz hA];refine⟨a',n+1,c',h',h1,hC a' c' h' ?_ w2 ?_⟩
 ·rw[dH hA]
  refine lE.dj (h:=h') (by simpa using h2) (Nat.le_refl _) (fun ad bQ hb=>rfl)
 ·rw[dH hA]
  exact Ext.vk w1 (e0.trans x1) aq
theorem TM{t:TypeId}{e es:Nat}(hT:fx Try.prog t e es){a:Option Addr}{n:Nat}(hn:n<=1000000){k:IntKind}{i:Int}(i0:1<=i)(i1:i<n){C:Option Addr->Nat->Nat->Prop}
  (h:C (a.map (fV · (i.toNat*es))) (n-i.toNat) (az es (n-i.toNat))):Ec t (.slice a n (az es n)) (some (.int k i)) none none C:=by
 have tP:Ec t (.slice a n (az es n)) (some (.int k i)) none none C = ∃a' n' c',gQ Try.prog t (.slice a n (az es n)) (some (.int k i)) none none=some (.slice a' n' c')/\C a' n' c':=by have:=hA.eq;injections;subst_vars;rfl
 rw[tP];refine⟨_,_,_,?_,h⟩;have hs:n<aP:=by unfold aP;omega
 unfold gQ;simp only[hT.vR,hT.size];unfold lK;simp only[gI,iN,ik,bound];rw[if_pos ⟨om,om⟩];simp only[];rw[cA hs,bq (Nat.le_refl _),cM (dE es n),kg hs];simp only[cond_true,cond_false,Option.isSome_none,Bool.or_false];rw[J8 (show i.toNat≠0 by omega),dN om];simp
theorem Ct{t:TypeId}{e es:Nat}(hT:fx Try.prog t e es){b o n:Nat}(hn:n<=1000000){k:IntKind}{i:Int}(i0:0<=i)(i1:i<n){C:Option Addr->Nat->Nat->Prop}
  (h:∀c',C (some ⟨b,o+i.toNat*es,none⟩) (n-i.toNat) c'):Ec t (.slice (some ⟨b,o,none⟩) n (az es n)) (some (.int k i)) none none C:=by
 by_cases c:1<=i
 ·exact TM hA hT hn c i1 (h _)
 obtain rfl:i=0:=om
 have tP:Ec t (.slice (some ⟨b,o,none⟩) n (az es n)) (some (.int k 0)) none none C = ∃a' n' c',gQ Try.prog t (.slice (some ⟨b,o,none⟩) n (az es n)) (some (.int k 0)) none none=some (.slice a' n' c')/\C a' n' c':=by have:=hA.eq;injections;subst_vars;rfl
 rw[tP];have h:=h (az es n);rw[show o+(0:Int).toNat*es=o by simp,show n-(0:Int).toNat=n by simp]at h;refine⟨_,_,_,?_,h⟩;have hs:n<aP:=by unfold aP;omega
 unfold gQ;simp only[hT.vR,hT.size];unfold lK;simp only[gI,iN,ik,bound];rw[if_pos ⟨om,om⟩];simp only[];rw[cA hs,bq (Nat.le_refl _),cM (dE es n),kg hs];simp
theorem Es{t:TypeId}{e es:Nat}(hT:fx Try.prog t e es){b o n c:Nat}(ec:c=az es n)(hn:n<=1000000){k:IntKind}{i:Int}(i0:0<=i)(i1:i<n){C:Option Addr->Nat->Nat->Prop}
  (h:∀c',C (some ⟨b,o+i.toNat*es,none⟩) (n-i.toNat) c'):Ec t (.slice (some ⟨b,o,none⟩) n c) (some (.int k i)) none none C:=by
 subst ec;exact Ct hA hT hn i0 i1 h
theorem MH{t:TypeId}{e es:Nat}(hT:fx Try.prog t e es){h:af}{a:Option Addr}{n c:Nat}(hn:n<=1000000)(hc:c=az es n\/(n=0/\a=none/\c=0)){cells:List Value}(hs:Cells h a n es cells){k:IntKind}{i:Nat}(hi:i<=n){C:Option Addr->Nat->Nat->Prop}
  (hC:∀a' c',(∀h',Ext h h'->vj Try.prog h' e es a' (n-i) c' (cells.drop (i*es)))->C a' (n-i) c'):Ec t (.slice a n c) (some (.int k i)) none none C:=by
 have tP:Ec t (.slice a n c) (some (.int k i)) none none C = ∃a' n' c',gQ Try.prog t (.slice a n c) (some (.int k i)) none none=some (.slice a' n' c')/\C a' n' c':=by have:=hA.eq;injections;subst_vars;rfl
 have hlen:=hs.length;rw[tP];unfold gQ;simp only[hT.vR,hT.size];unfold lK;simp only[gI,iN,ik,bound];rcases hc with rfl|⟨rfl,rfl,rfl⟩
 ·have Dd:n<aP:=by unfold aP;omega
  rw[if_pos ⟨om,om⟩];simp only[];rw[cA Dd,bq (Nat.le_refl _),cM (dE es n),kg Dd];simp only[cond_true,cond_false,Option.isSome_none,Bool.or_false,Int.toNat_natCast];by_cases c0:i=0
  ·subst c0
   rw[show Nat.beq 0 0=true from rfl];simp only[cond_true];refine⟨_,_,_,rfl,hC _ _ (fun h' x=>?_)⟩;rw[Nat.zero_mul,List.drop_zero];exact vj.of _ (hs.ext x)
  rw[J8 c0];simp only[cond_false];by_cases c1:i<n
  ·rw[dN c1]
   simp only[Bool.true_and,Nat.beq_refl,cond_true];refine⟨_,_,_,rfl,hC _ _ (fun h' x=>?_)⟩;have:=(hs.ext x).part (i:=i) (m:=n-i) om;rw[List.take_of_length_le (by rw[List.length_drop,hlen,Nat.sub_mul];omega)]at this;exact vj.of _ this
  ·have e1:i=n:=om
   subst e1;rw[cM (Nat.le_refl _)];simp only[Bool.false_and,cond_false];rw[show Nat.beq i i=true by simp];simp only[cond_true,Nat.sub_self];refine⟨_,_,_,rfl,?_⟩;have:=hC (some ⟨0,0,some 0⟩) aP (fun h' _=>by
    rw[Nat.sub_self,List.drop_of_length_le om];exact vj.nothing _ _ _ _ _ _)
   rwa [Nat.sub_self]at this
 ·obtain rfl:i=0:=om
  obtain⟨_,rfl⟩:=hs;rw[if_pos ⟨om,by simp⟩];simp only[];refine⟨none,0,0,rfl,?_⟩;exact hC none 0 (fun h' _=>by simpa using vj.of (P:=Try.prog) (h:=h') (e:=e) (es:=es) 0 (show Cells h' none 0 es []from⟨rfl,rfl⟩))
theorem It{t:TypeId}{e es:Nat}(hT:fx Try.prog t e es){b o n:Nat}(hn:n<=1000000){k:IntKind}{I:Int}{i:Nat}(eI:I=i)(i1:i<n){C:Option Addr->Nat->Nat->Prop}
  (h:C (some ⟨b,o+i*es,none⟩) (n-i) (n-i)):Ec t (.slice (some ⟨b,o,none⟩) n n) (some (.int k I)) none none C:=by
 subst eI;have tP:Ec t (.slice (some ⟨b,o,none⟩) n n) (some (.int k i)) none none C = ∃a' n' c',gQ Try.prog t (.slice (some ⟨b,o,none⟩) n n) (some (.int k i)) none none=some (.slice a' n' c')/\C a' n' c':=by have:=hA.eq;injections;subst_vars;rfl
 rw[tP];refine⟨_,_,_,?_,h⟩;have hs:n<aP:=by unfold aP;omega
 unfold gQ;simp only[hT.vR,hT.size];unfold lK;simp only[gI,iN,ik,bound,fE hs];rw[if_pos ⟨om,om⟩];simp only[bq (Nat.le_refl n),dN hs,cond_true,Bool.true_or];rw[J8 (show n≠(i:Int).toNat by omega)];rfl
set_option maxHeartbeats 1000000 in
theorem MJ(hF:dF Try.prog F){h:af}(aq:h.low=h.next){b vb n i:Nat}{I:Int}(eI:I=i){cs:List Value}{v:Value}(hb:b<h.next)(hm:bW h b 1 cs)(hl:cs.length=n)(Vg:vb<h.next)(hv:bW h vb 1 [v])(hi:i<n)(hn:n<=1000)(fD:cs.all aE=true)(TN:aE v=true){R:Value->af->Prop}
  (hR:∀b2 h',bW h' b2 1 (cs.take i++v :: cs.drop i)->h.next<=b2->b2<h'.next->h.next<=h'.low->R (.slice (some ⟨b2,0,none⟩) (n+1) (az 1 (n+1))) h') :
  rV progU Try.f100.ntmps TK ⟨sq [.slice (some ⟨b,0,none⟩) n n,.int .i64 I,.slice (some ⟨vb,0,none⟩) 1 1] 0 [],0,[],h⟩ (fun e s'=>(e=.normal\/e=.ret)/\∃v,lk s'.env 6=some v/\dD v=true/\R v s'.h):=by
 have run:=fun {c:Code} {s:SS} {Q:Exit->SS->Prop} (hl:bG c=[]) (hr:bH c=[])=>rV.run hA.toAOK live mixed hF named Try.func100 wX (c:=c) hl hr (s:=s) (Q:=Q)
 have e1:ofNat 1=1:=aL hA 1;obtain⟨N,eN⟩:∃z:Int,z=n:=⟨_,rfl⟩;have e2:ofNat n=N:=by rw[eN];exact aL hA n
 refine run rfl rfl (zc ?_);refine It hA zf om eI hi ?_;refine zc ?_;rw[e1,show cmp .eql 1 0=false by rw[dn hA];rfl];refine zc ?_;rw[e2,show cmp .eql I N=false by rw[dn hA];simp;omega];refine zc ?_;have e3:arith .add .i64 N 1=N+1:=aH hA om om;refine⟨(show lt n 9223372036854775808=(n<9223372036854775808) by have:=hA.eq;injections;subst_vars;rfl) ▸ om,?_⟩;refine zc ?_;rw[e2,e3,show cmp .gtr (N+1) N=true by rw[dP hA];simp;omega];refine zc ?_;refine⟨by rw[MK hA,fE (by unfold aP;omega)];omega,?_⟩;refine zc ?_;have e4:arith .sub .i64 (N+1) I=N+1-I:=bO hA om om;rw[e3,e4];rw[sz hA];obtain⟨M,eM⟩:∃z:Int,z=N+1-I:=⟨_,rfl⟩;rw[<-eM];have en:nat I=i:=by rw[Iu hA];omega
 rw[en];refine⟨_,_,_,_,Cs (M:=n+1-i) om hm hl hi om hn fD,?_⟩;obtain⟨xs,exs⟩:∃z,z=cs.take i++List.replicate (n+1-i) (Value.slice none 0 0):=⟨_,rfl⟩;have hxl:xs.length=n+1:=by rw[exs];simp;omega
 have o1:bW (h.push 1 xs) h.next 1 xs:=.push _ _ _;have x1:Ext h (h.push 1 xs):=.push _ _ _;rw[<-exs];obtain⟨h1,Y7⟩:∃z,z=h.push 1 xs:=⟨_,rfl⟩;rw[<-Y7]at o1 x1 ⊢;obtain⟨q,eq⟩:∃z,z=n+1:=⟨_,rfl⟩;rw[<-eq];obtain⟨nx,enx⟩:∃z,z=h.next:=⟨_,rfl⟩;rw[<-enx]at o1 ⊢;obtain⟨cq,Iv⟩:∃z,z=az 1 q:=⟨_,rfl⟩;rw[<-Iv];refine zc ?_;refine Es hA zf (n:=q) Iv om (i:=I) om om (fun c'=>?_);rw[show 0+I.toNat*1=i by omega,show q-I.toNat=q-i by omega];obtain⟨m1,em1⟩:∃z,z=q-i:=⟨_,rfl⟩;rw[<-em1];refine zc ?_;rw[Iw hA];have Aa:=hv.ext x1 Vg;obtain⟨h2,k1,k2,k3⟩:=tO (m:=m1) (c:=c') (cp:=1) (ns:=1) (o:=i) (k:=1) (l:=[v]) (a:=⟨vb,0,none⟩) o1 (by show min 1 m1=1;omega) (Aa.aM (o:=0) (n:=1) (by simp)) rfl om (by simp[TN]);refine⟨_,h2,k1,?_⟩;refine zc ?_;have e5:arith .add .i64 I 1=I+1:=aH hA om om;rw[e5];refine Es hA zf (n:=q) Iv om (i:=I+1) om om (fun c2=>?_);rw[show 0+(I+1).toNat*1=i+1 by omega,show q-(I+1).toNat=n-i by omega];obtain⟨m2,Vh⟩:∃z,z=n-i:=⟨_,rfl⟩;obtain⟨i1,Iy⟩:∃z,z=i+1:=⟨_,rfl⟩;rw[<-Vh,<-Iy];refine zc ?_;refine It hA zf om eI hi ?_;rw[show 0+i*1=i by omega,<-Vh];refine zc ?_;rw[Iw hA,iq hA,kI hA];have Y8:bW (h2.aG 9).cP b 1 cs:=k3.own (hm.ext x1 hb) om;have o2:bW (h2.aG 9).cP nx 1 (xs.take i++([v]++xs.drop (i+1))):=k2;obtain⟨h3,p1,p2,p3⟩:=tO (m:=m2) (c:=c2) (cp:=m2) (ns:=m2) (o:=i1) (k:=m2) (l:=cs.drop i) (a:=⟨b,i,none⟩) o2 (Nat.min_self _) (by rw[Y8.aM om,List.take_of_length_le (by simp;omega)]) (by simp;omega) (by simp;omega) (by rw[List.all_eq_true]at fD ⊢;exact fun v hv=>fD v (List.mem_of_mem_drop hv));refine⟨_,h3,p1,?_⟩;obtain⟨k,ek⟩:∃z:Int,z=m2:=⟨_,rfl⟩;rw[<-ek];refine zc ?_;refine⟨.inr trivial,_,rfl,rfl,?_⟩;rw[Iv,eq];have hxt:xs.take i=cs.take i:=by rw[exs,List.take_append_of_le_length (by simp;omega),List.take_take,Nat.min_self]
 have VW:(xs.take i++([v]++xs.drop (i+1))).take i1++(cs.drop i++(xs.take i++([v]++xs.drop (i+1))).drop (i1+m2))=cs.take i++v :: cs.drop i:=by
  have z1:(xs.take i++([v]++xs.drop (i+1))).drop (i1+m2)=[]:=List.drop_eq_nil_of_le (by simp[hxl];omega);have z2:(xs.take i++([v]++xs.drop (i+1))).take i1=cs.take i++[v]:=by
   rw[<-List.append_assoc,List.take_append_of_le_length (by simp[hxl];omega),List.take_of_length_le (by simp[hxl];omega),hxt]
  rw[z1,z2];simp
 rw[VW]at p2;refine hR nx _ ?_ om ?_ ?_
 ·rw[dH hA];exact p2
 ·rw[dH hA]
  show nx<h3.next;rw[p3.next];show nx<h2.next+9;rw[k3.next,Y7];show nx<h.next+1+9;omega
 ·rw[dH hA]
  show h.next<=Nat.min h2.low h3.low;have q1:h.next<=h2.low:=by rw[k3.low,Y7];show h.next<=Nat.min h.low nx;exact Nat.le_min.2 ⟨om,om⟩
  have q2:h.next<=h3.low:=by
   rw[p3.low];show h.next<=Nat.min (h2.next+9) nx;have:h2.next=h.next+1:=by rw[k3.next,Y7];rfl
   exact Nat.le_min.2 ⟨om,om⟩
  exact Nat.le_min.2 ⟨q1,q2⟩
theorem tQ{t:TypeId}{e es:Nat}(hT:fx Try.prog t e es){b o n m c:Nat}(ec:c=az es m)(hn:m<=1000000)(Y9:n<=m){k:IntKind}{I:Int}{i:Nat}(eI:I=i)(i1:i<n){C:Option Addr->Nat->Nat->Prop}
  (h:∀c',C (some ⟨b,o+i*es,none⟩) (n-i) c'):Ec t (.slice (some ⟨b,o,none⟩) n c) (some (.int k I)) none none C:=by
 subst eI;subst ec;have tP:Ec t (.slice (some ⟨b,o,none⟩) n (az es m)) (some (.int k i)) none none C = ∃a' n' c',gQ Try.prog t (.slice (some ⟨b,o,none⟩) n (az es m)) (some (.int k i)) none none=some (.slice a' n' c')/\C a' n' c':=by have:=hA.eq;injections;subst_vars;rfl
 rw[tP];have hs:m<aP:=by unfold aP;omega
 by_cases c:i=0
 ·subst c
  have h:=h (az es m);rw[show o+0*es=o by simp,Nat.sub_zero]at h;refine⟨_,_,_,?_,h⟩;unfold gQ;simp only[hT.vR,hT.size];unfold lK;simp only[gI,iN,ik,bound,cA hs];rw[if_pos ⟨om,om⟩];simp only[bq Y9,cM (dE es m),cond_true,cond_false,Option.isSome_none,Bool.or_false];rfl
 ·refine⟨_,_,_,?_,h (az es (m-i))⟩
  unfold gQ;simp only[hT.vR,hT.size];unfold lK;simp only[gI,iN,ik,bound,cA hs];rw[if_pos ⟨om,om⟩];simp only[bq Y9,cM (dE es m),cond_true,cond_false,Option.isSome_none,Bool.or_false,kg hs];rw[J8 (show(i:Int).toNat≠0 by omega),dN (show(i:Int).toNat<m by omega)];simp[fV]
set_option maxHeartbeats 1000000 in
theorem ML(hF:dF Try.prog F)(hov:∀a b h',jV a b=some h'->F 118 a b=some h'){h:af}(aq:h.low=h.next){b vb n i:Nat}{I:Int}(eI:I=i){cs:List Value}{v:Value}(hb:b<h.next)(hm:bW h b 1 (cs++[.chan none]))(hl:cs.length=n)(Vg:vb<h.next)(ff:b≠vb)(hv:bW h vb 1 [v])(hi:i<n)(hn:n<=1000)(fD:cs.all aE=true)(TN:aE v=true){R:Value->af->Prop}
  (hR:∀h',bW h' b 1 (cs.take i++v :: cs.drop i)->h.next<=h'.next->(∀k,k≠b->h'.m.get k=h.m.get k)->b<=h'.low->R (.slice (some ⟨b,0,none⟩) (n+1) (az 1 (n+1))) h') :
  rV progU Try.f100.ntmps TK ⟨sq [.slice (some ⟨b,0,none⟩) n (az 1 (n+1)),.int .i64 I,.slice (some ⟨vb,0,none⟩) 1 1] 0 [],0,[],h⟩ (fun e s'=>(e=.normal\/e=.ret)/\∃v,lk s'.env 6=some v/\dD v=true/\R v s'.h):=by
 have run:=fun {c:Code} {s:SS} {Q:Exit->SS->Prop} (hl:bG c=[]) (hr:bH c=[])=>rV.run hA.toAOK live mixed hF named Try.func100 wX (c:=c) hl hr (s:=s) (Q:=Q)
 have e1:ofNat 1=1:=aL hA 1;obtain⟨N,eN⟩:∃z:Int,z=n:=⟨_,rfl⟩;have e2:ofNat n=N:=by rw[eN];exact aL hA n
 obtain⟨q,eq⟩:∃z,z=n+1:=⟨_,rfl⟩;obtain⟨cq,Iv⟩:∃z,z=az 1 q:=⟨_,rfl⟩;rw[<-eq,<-Iv];refine rV.seq (run rfl rfl (zc ?_));refine rV.seq (run rfl rfl (zc ?_));refine tQ hA zf (m:=q) Iv om om eI hi (fun c'=>?_);refine zc ?_;refine rV.seq (run rfl rfl (zc ?_));rw[e1];refine rV.seq (run rfl rfl (zc ?_));rw[show cmp .eql 1 0=false by rw[dn hA];rfl];refine zc ?_;refine rV.seq (run rfl rfl (zc ?_));rw[e2];refine rV.seq (run rfl rfl (zc ?_));rw[show cmp .eql I N=false by rw[dn hA];simp;omega];refine zc ?_;refine rV.WS (env0:=[(0,.slice (some ⟨b,0,none⟩) n cq),(1,.int .i64 I),(2,.slice (some ⟨vb,0,none⟩) 1 1),(7,.int .i64 1),(8,.int .i64 N)]) (fun p hp=>?_) ?_
 ·simp only[List.mem_cons,List.not_mem_nil,or_false]at hp
  rcases hp with rfl|rfl|rfl|rfl|rfl<;>rfl
 refine rV.seq (rV.seq (rV.room (n:=n) (b:=b) (off:=0) (k:=cq) (by decide) rfl rfl rfl rfl rfl rfl rfl rfl rfl rfl rfl rfl rfl rfl rfl rfl rfl rfl rfl zf.vR (by rw[eN];rfl) rfl rfl (fun p hp=>?_) hn (by rw[Iv,cA (by unfold aP;omega)];omega) ?_))
 ·simp only[List.mem_cons,List.not_mem_nil,or_false]at hp
  rcases hp with rfl|rfl|rfl|rfl|rfl<;>simp
 refine run rfl rfl (zc ?_);refine run rfl rfl (zc ?_);have e3:arith .add .i64 N 1=q:=by rw[aH hA om om];omega
 rw[e3];obtain⟨qI,eqI⟩:∃z:Int,z=q:=⟨_,rfl⟩;rw[<-eqI];refine⟨by rw[MK hA,Iv,cA (by unfold aP;omega)];omega,?_⟩;refine zc ?_;rw[show nat qI=q by rw[Iu hA];omega];have e5:arith .add .i64 I 1=I+1:=aH hA om om;rw[e5];obtain⟨I1,eI1⟩:∃z:Int,z=I+1:=⟨_,rfl⟩;rw[<-eI1];refine tQ hA zf (n:=q) (m:=q) Iv om om (i:=i+1) om om (fun c2=>?_);rw[show 0+(i+1)*1=i+1 by omega,show q-(i+1)=n-i by omega];obtain⟨m2,Vh⟩:∃z,z=n-i:=⟨_,rfl⟩;obtain⟨i1,Iy⟩:∃z,z=i+1:=⟨_,rfl⟩;rw[<-Vh,<-Iy];refine zc ?_;have ov:F 118 [.slice (some ⟨vb,0,none⟩) 1 1,.slice (some ⟨b,i1,none⟩) m2 c2] h=some (.bool false,h):=by
  refine hov _ _ _ ?_;unfold jV;have q1:h.m.get vb=some (.live true 1 [v]):=hv;obtain⟨z,zs,hz⟩:∃z zs,cs++[.chan none]=z :: zs:=by
   cases cs with
   |nil=>exact⟨_,_,rfl⟩
   |cons z zs=>exact⟨_,_,rfl⟩
  have q2:h.m.get b=some (.live true 1 (z :: zs)):=by rw[<-hz];exact hm
  simp only[q1,q2];rw[J8 (fun e=>ff e.symm)];rfl
 refine hA.Mz ov ?_;refine⟨false,rfl,?_⟩;refine zc ?_;rw[show gM false=true by rw[dk hA];rfl];refine zc ?_;rw[e5,<-eI1];refine tQ hA zf (n:=q) (m:=q) Iv om om (i:=i1) om om (fun c3=>?_);rw[show 0+i1*1=i1 by omega,show q-i1=m2 by omega];refine zc ?_;refine tQ hA zf (n:=q) (m:=q) Iv om om (i:=i) eI om (fun c4=>?_);obtain⟨m3,Za⟩:∃z,z=q-i:=⟨_,rfl⟩;rw[show 0+i*1=i by omega,<-Za];refine zc ?_;have al:∀l:List Value,(∀v∈l,v∈cs)->l.all aE=true:=fun l q=>by rw[List.all_eq_true]at fD ⊢;exact fun v hv=>fD v (q v hv)
 rw[Iw hA,iq hA,kI hA];have Y8:bW (h.aG 9).cP b 1 (cs++[.chan none]):=hm;have LM:(cs++[Value.chan none]).length=n+1:=by simp[hl]
 obtain⟨h3,p1,p2,p3⟩:=tO (m:=m2) (c:=c3) (cp:=c4) (ns:=m3) (o:=i1) (k:=m2) (l:=cs.drop i) (a:=⟨b,i,none⟩) Y8 (by show min m3 m2=m2;omega) (by rw[Y8.aM om,List.drop_append_of_le_length om,List.take_append_of_le_length (by simp;omega),List.take_of_length_le (by simp;omega)]) (by simp;omega) om (al _ (fun v hv=>List.mem_of_mem_drop hv));refine⟨_,h3,p1,?_⟩;obtain⟨k,ek⟩:∃z:Int,z=m2:=⟨_,rfl⟩;rw[<-ek];obtain⟨ys,Zb⟩:∃z,z=(cs++[Value.chan none]).take i1++(cs.drop i++(cs++[Value.chan none]).drop (i1+m2)):=⟨_,rfl⟩;rw[<-Zb]at p2;have yl:ys.length=n+1:=by rw[Zb];simp;omega
 refine zc ?_;rw[dH hA];generalize Zc:h3.aw _=h4;have o4:bW h4 b 1 ys:=by rw[<-Zc];exact p2
 have n4:h4.next=h.next+9:=by rw[<-Zc];show h3.next=_;rw[p3.next];rfl
 have g4:∀k,k≠b->h4.m.get k=h.m.get k:=fun k hk=>by rw[<-Zc];exact p3.get k hk
 have l4:b<=h4.low:=by
  rw[<-Zc];show b<=Nat.min h.low h3.low;rw[p3.low];show b<=Nat.min h.low (Nat.min (h.next+9) b);exact Nat.le_min.2 ⟨om,Nat.le_min.2 ⟨om,Nat.le_refl _⟩⟩
 refine tQ hA zf (n:=q) (m:=q) Iv om om (i:=i) eI om (fun c5=>?_);rw[show 0+i*1=i by omega,<-Za];refine zc ?_;rw[Iw hA];obtain⟨h5,r1,r2,r3⟩:=tO (m:=m3) (c:=c5) (cp:=1) (ns:=1) (o:=i) (k:=1) (l:=[v]) (a:=⟨vb,0,none⟩) o4 (by show min 1 m3=1;omega) ((hv.dj (g4 vb (fun e=>ff e.symm))).aM (o:=0) (n:=1) (by simp)) rfl om (by simp[TN]);refine⟨_,h5,r1,?_⟩;refine zc ?_;refine⟨.inr trivial,_,rfl,rfl,?_⟩;rw[Iv,eq];have hxt:ys.take i=cs.take i:=by rw[Zb,List.take_append_of_le_length (by simp;omega),List.take_take,Nat.min_eq_left om,List.take_append_of_le_length om]
 have hyd:ys.drop (i+1)=cs.drop i:=by
  have z1:(cs++[Value.chan none]).drop (i1+m2)=[]:=List.drop_eq_nil_of_le (by simp;omega);rw[Zb,z1,List.append_nil,List.drop_append_of_le_length (by simp;omega),List.drop_eq_nil_of_le (by simp;omega),List.nil_append]
 rw[hxt,hyd]at r2;refine hR h5 r2 (by rw[r3.next,n4];omega) (fun k hk=>by rw[r3.get k hk,g4 k hk]) ?_;rw[r3.low];exact Nat.le_min.2 ⟨l4,Nat.le_refl _⟩
