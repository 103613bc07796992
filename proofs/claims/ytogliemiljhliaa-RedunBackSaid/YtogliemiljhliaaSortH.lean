import Derived.Test.YtogliemiljhliaaSymC
import Derived.Test.YtogliemiljhliaaFracR
import Derived.Test.YtogliemiljhliaaFracA
set_option linter.unusedSimpArgs false
set_option linter.unusedVariables false
namespace Go.Proofs.Ytogliemiljhliaa
open Go.Sim
def gt{α:Type}[Inhabited α](l:List α)(i:Int):α:=l.getD i.toNat default
structure Rows{α:Type}(enc:α->List Value)(es:Nat)(h:AHeap)(a:Option Addr)(n:Nat)(l:List α):Prop where
 cells:Cells h a n es (l.flatMap enc)
 each:∀x,(enc x).length=es
 pos:0<es
theorem flatE_len{α:Type}{enc:α->List Value}{es:Nat}(he:∀x,(enc x).length=es)(l:List α):(l.flatMap enc).length=l.length*es:=by
 induction l with
 |nil=>simp
 |cons c l ih=>rw[List.flatMap_cons,List.length_append,he,ih,List.length_cons,Nat.add_mul];omega
theorem flatE_drop{α:Type}[Inhabited α]{enc:α->List Value}{es:Nat}(he:∀x,(enc x).length=es)(l:List α)(i:Nat)(hi:i<l.length)(k m:Nat)(hk:k+m<=es):((l.flatMap enc).drop (i*es+k)).take m=((enc (l.getD i default)).drop k).take m:=by
 induction l generalizing i with
 |nil=>simp at hi
 |cons c l ih=>
  cases i with
  |zero=>
   rw[List.flatMap_cons,Nat.zero_mul,Nat.zero_add,List.drop_append_of_le_length (by rw[he];omega),List.take_append_of_le_length (by rw[List.length_drop,he];omega)];rfl
  |succ i=>
   have e:((c :: l).flatMap enc).drop ((i+1)*es+k)=(l.flatMap enc).drop (i*es+k):=by
    rw[List.flatMap_cons,show(i+1)*es+k=(enc c).length+(i*es+k) by rw[he,Nat.add_mul];omega,List.drop_append,List.drop_eq_nil_of_le (by omega),Nat.add_sub_cancel_left,List.nil_append]
   rw[e];exact ih i (by simpa using hi)
theorem Rows.ext{α:Type}{enc:α->List Value}{es:Nat}{h h':AHeap}{a:Option Addr}{n:Nat}{l:List α}(p:Rows enc es h a n l)(e:Ext h h'):Rows enc es h' a n l:=⟨p.cells.ext e,p.each,p.pos⟩
theorem Rows.len{α:Type}{enc:α->List Value}{es:Nat}{h:AHeap}{a:Option Addr}{n:Nat}{l:List α}(p:Rows enc es h a n l):l.length=n:=by
 have h1:=p.cells.length;rw[flatE_len p.each]at h1;exact Nat.eq_of_mul_eq_mul_right p.pos h1
theorem Rows.at{α:Type}[Inhabited α]{enc:α->List Value}{es:Nat}{h:AHeap}{a:Option Addr}{n:Nat}{l:List α}(p:Rows enc es h a n l){i:Int}(h0:0<=i)(hi:i<n) :
  ∃b o,a=some ⟨b,o,none⟩/\b<h.next/\∀k m,k+m<=es->0<m->h.readG ⟨b,o+i.toNat*es+k,none⟩ m=some (((enc (gt l i)).drop k).take m):=by
 have hl:=p.len;have hm:∀k m,k+m<=es->i.toNat*es+k+m<=n*es:=fun k m hk=>by
  have:(i.toNat+1)*es<=n*es:=Nat.mul_le_mul_right _ (by omega);rw[Nat.add_mul]at this;omega
 obtain⟨b,o,h1,h2,_⟩:=p.cells.at (i:=i.toNat*es+0) (m:=es) (hm 0 es (by omega)) p.pos;refine⟨b,o,h1,h2,fun k m hk hp=>?_⟩;obtain⟨b',o',h1',_,h3'⟩:=p.cells.at (i:=i.toNat*es+k) (m:=m) (hm k m hk) hp;rw[h1]at h1';cases h1';rw[Nat.add_assoc,h3',flatE_drop p.each l i.toNat (by omega) k m hk];rfl
theorem Own.rows{α:Type}{enc:α->List Value}{es:Nat}{h:AHeap}{b:Nat}{l:List α}(c:Own h b es (l.flatMap enc))(he:∀x,(enc x).length=es)(hp:0<es)(hb:b<h.next):Rows enc es h (some ⟨b,0,none⟩) l.length l:=by
 refine⟨⟨rfl,hb,?_⟩,he,hp⟩;have:=c.readG (o:=0) (n:=l.length*es) (by rw[flatE_len he];omega);rw[this,List.drop_zero,List.take_of_length_le (by rw[flatE_len he];omega)]
theorem Rows.nil{α:Type}{enc:α->List Value}{es:Nat}(h:AHeap)(he:∀x,(enc x).length=es)(hp:0<es):Rows enc es h none 0 []:=⟨⟨rfl,rfl⟩,he,hp⟩
theorem Own.setRow{α:Type}[Inhabited α]{enc:α->List Value}{es:Nat}{h:AHeap}{b:Nat}{l:List α}(c:Own h b es (l.flatMap enc))(he:∀x,(enc x).length=es){i:Nat}(hi:i<l.length)(x:α):∃h',h.write b (i*es) (enc x)=some h'/\Own h' b es ((l.set i x).flatMap enc)/\Wrote h h' b:=by
 have hle:(i+1)*es<=l.length*es:=Nat.mul_le_mul_right _ (by omega);rw[Nat.add_mul]at hle;obtain⟨h',w1,w2,w3⟩:=c.write (o:=i*es) (vs:=enc x) (by rw[flatE_len he,he];omega);refine⟨h',w1,?_,w3⟩;have e:∀(l:List α) (i:Nat),i<l.length->(l.flatMap enc).take (i*es)++(enc x++(l.flatMap enc).drop (i*es+(enc x).length))=(l.set i x).flatMap enc:=by
  intro l
  induction l with
  |nil=>intro i hi;simp at hi
  |cons c l ih=>
   intro i hi;cases i with
   |zero=>
    rw[List.set_cons_zero,List.flatMap_cons,List.flatMap_cons,Nat.zero_mul,Nat.zero_add,List.take_zero,List.nil_append,he,<-he c,List.drop_left]
   |succ i=>
    rw[List.set_cons_succ,List.flatMap_cons,List.flatMap_cons,show(i+1)*es=(enc c).length+i*es by rw[he,Nat.add_mul];omega,List.take_length_add_append,Nat.add_assoc,List.drop_length_add_append,List.append_assoc];rw[ih i (by simpa using hi)]
 rw[<-e l i hi];exact w2
end Go.Proofs.Ytogliemiljhliaa
namespace Go.Proofs.Ytogliemiljhliaa
open Go.Sim
set_option maxRecDepth 100000
def rq(n d:Int):Rat:=(n:Rat) / (d:Rat)
theorem okF.is{n d:Int}(h:okF n d):isF n d (rq n d):=by
 obtain⟨q,hq⟩:=h;have:=hq.val;unfold rq;rw[<-this];exact hq
theorem opIs_of{f:Rat->Rat->Rat}{n d m e a b r:Int}{p q:Rat}(hp:isF n d p)(hq:isF m e q)(hf:fits (f p q))(k:OpIs f n d m e a b r):isF a b (f p q)/\r=0:=by
 rcases k with ⟨w,_⟩|⟨p',q',hp',hq',k⟩
 ·exact absurd ⟨⟨p,hp⟩,⟨q,hq⟩⟩ w
 ·obtain rfl:=hp.uniq hp'
  obtain rfl:=hq.uniq hq';rcases k with ⟨_,rfl,rfl,rfl⟩|⟨w,_⟩
  ·exact⟨⟨rfl,rfl,hf⟩,rfl⟩
  ·exact absurd hf w
variable{F:Prims}{b0 c0 d0 e0 f0 g0 l0 m0 n0 o0 q0 r0 s0 t0 u0 nz v0 rd wr w0 next x0 y0 z0 a1 b1 c1 d1 e1 f1 g1 l1 m1 n1 o1 p1 r1 s1 t1 lt ne u1 v1 x1 yn y1 z1 a2 b2 c2 d2:_}(hA:AP F ⟨b0,c0,d0,e0,f0,g0,l0,m0,n0,o0,q0,r0,s0,t0,u0,nz,v0,rd,wr,w0,next,x0,y0,z0,a1,b1,c1,d1,e1,f1,g1,l1,m1,n1,o1,p1,r1,s1,t1,lt,ne,u1,v1,x1,yn,y1,z1,a2,b2,c2,d2⟩)
include hA
end Go.Proofs.Ytogliemiljhliaa
namespace Go.Proofs.Ytogliemiljhliaa
open Go.Sim
theorem gt_map{α β:Type}[Inhabited α][Inhabited β](f:α->β)(l:List α){i:Int}(h0:0<=i)(h1:i<l.length):gt (l.map f) i=f (gt l i):=by
 unfold gt;rw[List.getD,List.getD,List.getElem?_map,List.getElem?_eq_getElem (by omega)];rfl
theorem gt_ext{α:Type}[Inhabited α]{l m:List α}(hl:l.length=m.length)(h:∀i:Int,0<=i->i<l.length->gt l i=gt m i):l=m:=by
 refine List.ext_getElem hl (fun i h1 h2=>?_);have:=h i (by omega) (by omega);unfold gt at this;rw[Int.toNat_natCast,List.getD_eq_getElem?_getD,List.getD_eq_getElem?_getD,List.getElem?_eq_getElem h1,List.getElem?_eq_getElem h2]at this;exact this
theorem gt_set{α:Type}[Inhabited α](l:List α){i j:Int}(hi:0<=i)(hj:0<=j)(hl:i<l.length)(x:α):gt (l.set i.toNat x) j=if j=i then x else gt l j:=by
 unfold gt;rw[List.getD_eq_getElem?_getD,List.getD_eq_getElem?_getD,List.getElem?_set];by_cases e:j=i
 ·subst e;rw[if_pos rfl,if_pos (by omega),if_pos rfl];rfl
 ·rw[if_neg (by omega),if_neg e]
theorem gt_take{α:Type}[Inhabited α](l:List α){i:Int}(h0:0<=i)(h1:i<l.length):l.take (i+1).toNat=l.take i.toNat++[gt l i]:=by
 have e:(i+1).toNat=i.toNat+1:=by omega
 have h2:i.toNat<l.length:=by omega
 unfold gt;rw[e,List.take_add_one,List.getD_eq_getElem?_getD,List.getElem?_eq_getElem h2];rfl
theorem gt_mem{α:Type}[Inhabited α](l:List α){i:Int}(h0:0<=i)(h1:i<l.length):gt l i∈l:=by
 have h2:i.toNat<l.length:=by omega
 unfold gt;rw[List.getD_eq_getElem?_getD,List.getElem?_eq_getElem h2];exact List.getElem_mem ..
theorem mem_gt{α:Type}[Inhabited α]{l:List α}{x:α}(h:x∈l):∃i:Int,0<=i/\i<l.length/\gt l i=x:=by
 obtain⟨i,hi,e⟩:=List.getElem_of_mem h;refine⟨i,by omega,by omega,?_⟩;unfold gt;rw[Int.toNat_natCast,List.getD_eq_getElem?_getD,List.getElem?_eq_getElem hi];exact e
structure Pre{α:Type}(le:α->α->Prop):Prop where
 refl:∀x,le x x
 trans:∀x y z,le x y->le y z->le x z
 total:∀x y,le x y\/le y x
theorem Pre.of_not{α:Type}{le:α->α->Prop}(h:Pre le){x y:α}(w:¬le x y):le y x:=(h.total x y).resolve_left w
section
variable{α:Type}[Inhabited α]
def swapL(L:List α)(i j:Int):List α:=(L.set i.toNat (gt L j)).set j.toNat (gt L i)
theorem swap_len(L:List α)(i j:Int):(swapL L i j).length=L.length:=by unfold swapL;rw[List.length_set,List.length_set]
theorem gt_swap(L:List α){i j k:Int}(i0:0<=i)(i1:i<L.length)(j0:0<=j)(j1:j<L.length)(k0:0<=k):gt (swapL L i j) k=if k=j then gt L i else if k=i then gt L j else gt L k:=by
 unfold swapL;rw[gt_set _ j0 k0 (by rw[List.length_set];exact j1),gt_set _ i0 k0 i1]
theorem count_set(L:List α)(p:α->Bool){i:Int}(i0:0<=i)(i1:i<L.length)(x:α):(L.set i.toNat x).countP p+(if p (gt L i)=true then 1 else 0)=L.countP p+if p x=true then 1 else 0:=by
 have h2:i.toNat<L.length:=by omega
 have e:gt L i=L[i.toNat]:=by
  unfold gt;rw[List.getD_eq_getElem?_getD,List.getElem?_eq_getElem h2];rfl
 rw[e,List.countP_set h2];by_cases c:p L[i.toNat]=true
 ·have:0<L.countP p:=List.countP_pos_iff.2 ⟨_,List.getElem_mem h2,c⟩
  by_cases d:p x=true<;>simp[c,d]<;>omega
 ·by_cases d:p x=true<;>simp[c,d]
theorem count_swap(L:List α)(p:α->Bool){i j:Int}(i0:0<=i)(i1:i<L.length)(j0:0<=j)(j1:j<L.length):(swapL L i j).countP p=L.countP p:=by
 unfold swapL;have h1:=count_set L p i0 i1 (gt L j);have h2:=count_set (L.set i.toNat (gt L j)) p (i:=j) j0 (by rw[List.length_set];exact j1) (gt L i);rw[gt_set L i0 j0 i1]at h2;by_cases e:j=i
 ·subst e
  rw[if_pos rfl]at h2;omega
 ·rw[if_neg e]at h2
  omega
structure PermOn(a b:Int)(L L':List α):Prop where
 len:L'.length=L.length
 out:∀j:Int,0<=j->(j<a\/b<=j)->gt L' j=gt L j
 all:∀P:α->Prop,(∀j:Int,a<=j->j<b->P (gt L j))->∀j:Int,a<=j->j<b->P (gt L' j)
 cnt:∀p:α->Bool,L'.countP p=L.countP p
theorem PermOn.refl(a b:Int)(L:List α):PermOn a b L L:=⟨rfl,fun _ _ _=>rfl,fun _ h=>h,fun _=>rfl⟩
theorem PermOn.trans{a b:Int}{L M N:List α}(h:PermOn a b L M)(k:PermOn a b M N):PermOn a b L N:=
 ⟨k.len.trans h.len,fun j j0 q=>(k.out j j0 q).trans (h.out j j0 q),fun P w=>k.all P (h.all P w),fun p=>(k.cnt p).trans (h.cnt p)⟩
theorem PermOn.swap{a b:Int}(L:List α){i j:Int}(a0:0<=a)(hb:b<=L.length)(i0:a<=i)(i1:i<b)(j0:a<=j)(j1:j<b):PermOn a b L (swapL L i j):=by
 refine⟨swap_len L i j,fun k k0 q=>?_,fun P w k k0 k1=>?_,fun p=>count_swap L p (by omega) (by omega) (by omega) (by omega)⟩
 ·rw[gt_swap L (by omega) (by omega) (by omega) (by omega) k0,if_neg (by omega),if_neg (by omega)]
 ·rw[gt_swap L (by omega) (by omega) (by omega) (by omega) (by omega)]
  split
  ·exact w i i0 i1
  ·split
   ·exact w j j0 j1
   ·exact w k k0 k1
theorem PermOn.mem{a b:Int}{L M:List α}(h:PermOn a b L M)[DecidableEq α](x:α):x∈M↔x∈L:=by
 have:=h.cnt (fun y=>decide (y=x));constructor
 ·intro w
  have:0<L.countP (fun y=>decide (y=x)):=by rw[<-this];exact List.countP_pos_iff.2 ⟨x,w,by simp⟩
  obtain⟨y,hy,e⟩:=List.countP_pos_iff.1 this;simp at e;rw[<-e];exact hy
 ·intro w
  have:0<M.countP (fun y=>decide (y=x)):=by rw[this];exact List.countP_pos_iff.2 ⟨x,w,by simp⟩
  obtain⟨y,hy,e⟩:=List.countP_pos_iff.1 this;simp at e;rw[<-e];exact hy
variable{le:α->α->Prop}
def SortedOn(le:α->α->Prop)(L:List α)(a b:Int):Prop:=∀p q:Int,a<=p->p<q->q<b->le (gt L p) (gt L q)
def InsOn(le:α->α->Prop)(L:List α)(a b j:Int):Prop:=∀p q:Int,a<=p->p<q->q<=b->q≠j->le (gt L p) (gt L q)
theorem InsOn.start{L:List α}{a i:Int}(h:SortedOn le L a i):InsOn le L a i i:=fun p q p0 pq q1 qj=>h p q p0 pq (by omega)
theorem InsOn.first{L:List α}{a i:Int}(h:InsOn le L a i a):SortedOn le L a (i+1):=fun p q p0 pq q1=>h p q p0 pq (by omega) (by omega)
theorem InsOn.stop(hp:Pre le){L:List α}{a i j:Int}(h:InsOn le L a i j)(ja:a<j)(w:le (gt L (j-1)) (gt L j)):SortedOn le L a (i+1):=by
 intro p q p0 pq q1;by_cases e:q=j
 ·subst e
  by_cases e2:p=q-1
  ·rw[e2];exact w
  ·exact hp.trans _ _ _ (h p (q-1) p0 (by omega) (by omega) (by omega)) w
 ·exact h p q p0 pq (by omega) e
theorem InsOn.step(hp:Pre le){L:List α}{a i j:Int}(a0:0<=a)(hl:i<L.length)(h:InsOn le L a i j)(ja:a<j)(ji:j<=i)(w:¬le (gt L (j-1)) (gt L j)):InsOn le (swapL L j (j-1)) a i (j-1):=by
 have w':=hp.of_not w;have g:∀k:Int,0<=k->gt (swapL L j (j-1)) k=if k=j-1 then gt L j else if k=j then gt L (j-1)else gt L k:=fun k k0=>gt_swap L (by omega) (by omega) (by omega) (by omega) k0
 intro p q p0 pq q1 qj;rw[g p (by omega),g q (by omega),if_neg (show ¬q=j-1 from qj)];by_cases e:q=j
 ·rw[if_pos e]
  by_cases e2:p=j-1
  ·rw[if_pos e2];exact w'
  ·rw[if_neg e2,if_neg (show ¬p=j by omega)]
   exact h p (j-1) p0 (by omega) (by omega) (by omega)
 ·rw[if_neg e]
  by_cases e2:p=j-1
  ·rw[if_pos e2]
   exact h j q (by omega) (by omega) q1 e
  ·rw[if_neg e2]
   by_cases e3:p=j
   ·rw[if_pos e3]
    exact h (j-1) q (by omega) (by omega) q1 e
   ·rw[if_neg e3]
    exact h p q p0 pq q1 e
end
end Go.Proofs.Ytogliemiljhliaa
namespace Go.Proofs.Ytogliemiljhliaa
open Go.Sim
section
variable{α:Type}[Inhabited α]{le:α->α->Prop}
theorem SortedOn.one{L:List α}{a b:Int}(h:b<=a+1):SortedOn le L a b:=fun p q p0 pq q1=>by omega
end
