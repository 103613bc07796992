import Derived.Test.YtdpbiegfljmhmaaSymI
import Derived.Test.YtdpbiegfljmhmaaFracR
import Derived.Test.YtdpbiegfljmhmaaFracA
import Derived.Test.YtdpbiegfljmhmaaFracT
import Derived.Test.YtdpbiegfljmhmaaSymFacts
set_option linter.unusedSimpArgs false
set_option linter.unusedVariables false
namespace Go.Proofs.Ytdpbiegfljmhmaa
open Go.Sim
def gt{α:Type}[Inhabited α](l:List α)(i:Int):α:=l.getD i.toNat default
structure Rows{α:Type}(enc:α->List Value)(es:Nat)(h:af)(a:Option Addr)(n:Nat)(l:List α):Prop where
 cells:cD h a n es (l.flatMap enc)
 each:∀x,(enc x).length=es
 pos:0<es
theorem cQ{α:Type}{enc:α->List Value}{es:Nat}(he:∀x,(enc x).length=es)(l:List α):(l.flatMap enc).length=l.length*es:=by
 induction l with
 |nil=>simp
 |cons c l ih=>rw[List.flatMap_cons,List.length_append,he,ih,List.length_cons,Nat.add_mul];omega
theorem BC{α:Type}[Inhabited α]{enc:α->List Value}{es:Nat}(he:∀x,(enc x).length=es)(l:List α)(i:Nat)(hi:i<l.length)(k m:Nat)(hk:k+m<=es):((l.flatMap enc).drop (i*es+k)).take m=((enc (l.getD i default)).drop k).take m:=by
 induction l generalizing i with
 |nil=>simp at hi
 |cons c l ih=>
  cases i with
  |zero=>
   rw[List.flatMap_cons,Nat.zero_mul,Nat.zero_add,List.drop_append_of_le_length (by rw[he];omega),List.take_append_of_le_length (by rw[List.length_drop,he];omega)];rfl
  |succ i=>
   have e:((c :: l).flatMap enc).drop ((i+1)*es+k)=(l.flatMap enc).drop (i*es+k):=by
    rw[List.flatMap_cons,show(i+1)*es+k=(enc c).length+(i*es+k) by rw[he,Nat.add_mul];omega,List.drop_append,List.drop_eq_nil_of_le (by omega),Nat.add_sub_cancel_left,List.nil_append]
   rw[e];exact ih i (by simpa using hi)
theorem Rows.ext{α:Type}{enc:α->List Value}{es:Nat}{h h':af}{a:Option Addr}{n:Nat}{l:List α}(p:Rows enc es h a n l)(e:Ext h h'):Rows enc es h' a n l:=⟨p.cells.ext e,p.each,p.pos⟩
theorem Rows.len{α:Type}{enc:α->List Value}{es:Nat}{h:af}{a:Option Addr}{n:Nat}{l:List α}(p:Rows enc es h a n l):l.length=n:=by
 have h1:=p.cells.length;rw[cQ p.each]at h1;exact Nat.eq_of_mul_eq_mul_right p.pos h1
theorem Rows.at{α:Type}[Inhabited α]{enc:α->List Value}{es:Nat}{h:af}{a:Option Addr}{n:Nat}{l:List α}(p:Rows enc es h a n l){i:Int}(h0:0<=i)(hi:i<n) :
  ∃b o,a=some ⟨b,o,none⟩/\b<h.next/\∀k m,k+m<=es->0<m->h.readG ⟨b,o+i.toNat*es+k,none⟩ m=some (((enc (gt l i)).drop k).take m):=by
 have hl:=p.len;have hm:∀k m,k+m<=es->i.toNat*es+k+m<=n*es:=fun k m hk=>by
  have:(i.toNat+1)*es<=n*es:=Nat.mul_le_mul_right _ (by omega);rw[Nat.add_mul]at this;omega
 obtain⟨b,o,h1,h2,_⟩:=p.cells.at (i:=i.toNat*es+0) (m:=es) (hm 0 es (by omega)) p.pos;refine⟨b,o,h1,h2,fun k m hk hp=>?_⟩;obtain⟨b',o',h1',_,h3'⟩:=p.cells.at (i:=i.toNat*es+k) (m:=m) (hm k m hk) hp;rw[h1]at h1';cases h1';rw[Nat.add_assoc,h3',BC p.each l i.toNat (by omega) k m hk];rfl
theorem bG.rows{α:Type}{enc:α->List Value}{es:Nat}{h:af}{b:Nat}{l:List α}(c:bG h b es (l.flatMap enc))(he:∀x,(enc x).length=es)(hp:0<es)(hb:b<h.next):Rows enc es h (some ⟨b,0,none⟩) l.length l:=by
 refine⟨⟨rfl,hb,?_⟩,he,hp⟩;have:=c.readG (o:=0) (n:=l.length*es) (by rw[cQ he];omega);rw[this,List.drop_zero,List.take_of_length_le (by rw[cQ he];omega)]
theorem Rows.nil{α:Type}{enc:α->List Value}{es:Nat}(h:af)(he:∀x,(enc x).length=es)(hp:0<es):Rows enc es h none 0 []:=⟨⟨rfl,rfl⟩,he,hp⟩
theorem bG.setRow{α:Type}[Inhabited α]{enc:α->List Value}{es:Nat}{h:af}{b:Nat}{l:List α}(c:bG h b es (l.flatMap enc))(he:∀x,(enc x).length=es){i:Nat}(hi:i<l.length)(x:α):∃h',h.write b (i*es) (enc x)=some h'/\bG h' b es ((l.set i x).flatMap enc)/\gL h h' b:=by
 have hle:(i+1)*es<=l.length*es:=Nat.mul_le_mul_right _ (by omega);rw[Nat.add_mul]at hle;obtain⟨h',w1,w2,w3⟩:=c.write (o:=i*es) (vs:=enc x) (by rw[cQ he,he];omega);refine⟨h',w1,?_,w3⟩;have e:∀(l:List α) (i:Nat),i<l.length->(l.flatMap enc).take (i*es)++(enc x++(l.flatMap enc).drop (i*es+(enc x).length))=(l.set i x).flatMap enc:=by
  intro l
  induction l with
  |nil=>intro i hi;simp at hi
  |cons c l ih=>
   intro i hi;cases i with
   |zero=>
    rw[List.set_cons_zero,List.flatMap_cons,List.flatMap_cons,Nat.zero_mul,Nat.zero_add,List.take_zero,List.nil_append,he,<-he c,List.drop_left]
   |succ i=>
    rw[List.set_cons_succ,List.flatMap_cons,List.flatMap_cons,show(i+1)*es=(enc c).length+i*es by rw[he,Nat.add_mul];omega,List.take_length_add_append,Nat.add_assoc,List.drop_length_add_append,List.append_assoc];rw[ih i (by simpa using hi)]
 rw[<-e l i hi];exact w2
set_option maxRecDepth 100000
def rq(n d:Int):Rat:=(n:Rat) / (d:Rat)
theorem oN.is{n d:Int}(h:oN n d):gS n d (rq n d):=by
 obtain⟨q,hq⟩:=h;have:=hq.val;unfold rq;rw[<-this];exact hq
theorem gS.rq{n d:Int}{q:Rat}(h:gS n d q):rq n d=q:=h.val.symm
theorem gS.ok{n d:Int}{q:Rat}(h:gS n d q):oN n d:=⟨q,h⟩
theorem IM{n:Int}(h0:-1000000000000000000<=n)(h1:n<=1000000000000000000):gS n 1 (n:Rat):=⟨(Rat.num_intCast n).symm,by rw[Rat.den_intCast];rfl,by rw[Rat.num_intCast];exact h0,by rw[Rat.num_intCast];exact h1,by rw[Rat.den_intCast];decide⟩
theorem Cy{f:Rat->Rat->Rat}{n d m e a b r:Int}{p q:Rat}(hp:gS n d p)(hq:gS m e q)(hf:fits (f p q))(k:zP f n d m e a b r):gS a b (f p q)/\r=0:=by
 rcases k with ⟨w,_⟩|⟨p',q',hp',hq',k⟩
 ·exact absurd ⟨⟨p,hp⟩,⟨q,hq⟩⟩ w
 ·obtain rfl:=hp.uniq hp'
  obtain rfl:=hq.uniq hq';rcases k with ⟨_,rfl,rfl,rfl⟩|⟨w,_⟩
  ·exact⟨⟨rfl,rfl,hf⟩,rfl⟩
  ·exact absurd hf w
theorem Li{α β:Type}[Inhabited α][Inhabited β](f:α->β)(l:List α){i:Int}(h0:0<=i)(h1:i<l.length):gt (l.map f) i=f (gt l i):=by
 unfold gt;rw[List.getD,List.getD,List.getElem?_map,List.getElem?_eq_getElem (by omega)];rfl
theorem xL{α:Type}[Inhabited α](l:List α){i j:Int}(hi:0<=i)(hj:0<=j)(hl:i<l.length)(x:α):gt (l.set i.toNat x) j=if j=i then x else gt l j:=by
 unfold gt;rw[List.getD_eq_getElem?_getD,List.getD_eq_getElem?_getD,List.getElem?_set];by_cases e:j=i
 ·subst e;rw[if_pos rfl,if_pos (by omega),if_pos rfl];rfl
 ·rw[if_neg (by omega),if_neg e]
theorem Gz{α:Type}[Inhabited α](l:List α){i:Int}(h0:0<=i)(h1:i<l.length):gt l i∈l:=by
 have h2:i.toNat<l.length:=by omega
 unfold gt;rw[List.getD_eq_getElem?_getD,List.getElem?_eq_getElem h2];exact List.getElem_mem ..
structure EH{α:Type}(le:α->α->Prop):Prop where
 refl:∀x,le x x
 trans:∀x y z,le x y->le y z->le x z
 total:∀x y,le x y\/le y x
theorem EH.of_not{α:Type}{le:α->α->Prop}(h:EH le){x y:α}(w:¬le x y):le y x:=(h.total x y).resolve_left w
section
variable{α:Type}[Inhabited α]
def cV(L:List α)(i j:Int):List α:=(L.set i.toNat (gt L j)).set j.toNat (gt L i)
theorem FC(L:List α)(i j:Int):(cV L i j).length=L.length:=by unfold cV;rw[List.length_set,List.length_set]
theorem gW(L:List α){i j k:Int}(i0:0<=i)(i1:i<L.length)(j0:0<=j)(j1:j<L.length)(k0:0<=k):gt (cV L i j) k=if k=j then gt L i else if k=i then gt L j else gt L k:=by
 unfold cV;rw[xL _ j0 k0 (by rw[List.length_set];exact j1),xL _ i0 k0 i1]
theorem wi(L:List α)(p:α->Bool){i:Int}(i0:0<=i)(i1:i<L.length)(x:α):(L.set i.toNat x).countP p+(if p (gt L i)=true then 1 else 0)=L.countP p+if p x=true then 1 else 0:=by
 have h2:i.toNat<L.length:=by omega
 have e:gt L i=L[i.toNat]:=by
  unfold gt;rw[List.getD_eq_getElem?_getD,List.getElem?_eq_getElem h2];rfl
 rw[e,List.countP_set h2];by_cases c:p L[i.toNat]=true
 ·have:0<L.countP p:=List.countP_pos_iff.2 ⟨_,List.getElem_mem h2,c⟩
  by_cases d:p x=true<;>simp[c,d]<;>omega
 ·by_cases d:p x=true<;>simp[c,d]
theorem AR(L:List α)(p:α->Bool){i j:Int}(i0:0<=i)(i1:i<L.length)(j0:0<=j)(j1:j<L.length):(cV L i j).countP p=L.countP p:=by
 unfold cV;have h1:=wi L p i0 i1 (gt L j);have h2:=wi (L.set i.toNat (gt L j)) p (i:=j) j0 (by rw[List.length_set];exact j1) (gt L i);rw[xL L i0 j0 i1]at h2;by_cases e:j=i
 ·subst e
  rw[if_pos rfl]at h2;omega
 ·rw[if_neg e]at h2
  omega
structure aD(a b:Int)(L L':List α):Prop where
 len:L'.length=L.length
 out:∀j:Int,0<=j->(j<a\/b<=j)->gt L' j=gt L j
 all:∀P:α->Prop,(∀j:Int,a<=j->j<b->P (gt L j))->∀j:Int,a<=j->j<b->P (gt L' j)
 cnt:∀p:α->Bool,L'.countP p=L.countP p
theorem aD.refl(a b:Int)(L:List α):aD a b L L:=⟨rfl,fun _ _ _=>rfl,fun _ h=>h,fun _=>rfl⟩
theorem aD.trans{a b:Int}{L M N:List α}(h:aD a b L M)(k:aD a b M N):aD a b L N:=
 ⟨k.len.trans h.len,fun j j0 q=>(k.out j j0 q).trans (h.out j j0 q),fun P w=>k.all P (h.all P w),fun p=>(k.cnt p).trans (h.cnt p)⟩
theorem aD.wide{a b a' b':Int}{L M:List α}(h:aD a' b' L M)(a0:0<=a)(ha:a<=a')(hb:b'<=b):aD a b L M:=by
 refine⟨h.len,fun j j0 q=>h.out j j0 (by omega),fun P w j ja jb=>?_,h.cnt⟩;by_cases c:a'<=j/\j<b'
 ·exact h.all P (fun k k0 k1=>w k (by omega) (by omega)) j c.1 c.2
 ·rw[h.out j (by omega) (by omega)]
  exact w j ja jb
theorem aD.swap{a b:Int}(L:List α){i j:Int}(a0:0<=a)(hb:b<=L.length)(i0:a<=i)(i1:i<b)(j0:a<=j)(j1:j<b):aD a b L (cV L i j):=by
 refine⟨FC L i j,fun k k0 q=>?_,fun P w k k0 k1=>?_,fun p=>AR L p (by omega) (by omega) (by omega) (by omega)⟩
 ·rw[gW L (by omega) (by omega) (by omega) (by omega) k0,if_neg (by omega),if_neg (by omega)]
 ·rw[gW L (by omega) (by omega) (by omega) (by omega) (by omega)]
  split
  ·exact w i i0 i1
  ·split
   ·exact w j j0 j1
   ·exact w k k0 k1
variable{le:α->α->Prop}
def aC(le:α->α->Prop)(L:List α)(a b:Int):Prop:=∀p q:Int,a<=p->p<q->q<b->le (gt L p) (gt L q)
def mB(le:α->α->Prop)(L:List α)(a b j:Int):Prop:=∀p q:Int,a<=p->p<q->q<=b->q≠j->le (gt L p) (gt L q)
theorem mB.start{L:List α}{a i:Int}(h:aC le L a i):mB le L a i i:=fun p q p0 pq q1 qj=>h p q p0 pq (by omega)
theorem mB.first{L:List α}{a i:Int}(h:mB le L a i a):aC le L a (i+1):=fun p q p0 pq q1=>h p q p0 pq (by omega) (by omega)
theorem mB.stop(hp:EH le){L:List α}{a i j:Int}(h:mB le L a i j)(ja:a<j)(w:le (gt L (j-1)) (gt L j)):aC le L a (i+1):=by
 intro p q p0 pq q1;by_cases e:q=j
 ·subst e
  by_cases e2:p=q-1
  ·rw[e2];exact w
  ·exact hp.trans _ _ _ (h p (q-1) p0 (by omega) (by omega) (by omega)) w
 ·exact h p q p0 pq (by omega) e
theorem mB.step(hp:EH le){L:List α}{a i j:Int}(a0:0<=a)(hl:i<L.length)(h:mB le L a i j)(ja:a<j)(ji:j<=i)(w:¬le (gt L (j-1)) (gt L j)):mB le (cV L j (j-1)) a i (j-1):=by
 have w':=hp.of_not w;have g:∀k:Int,0<=k->gt (cV L j (j-1)) k=if k=j-1 then gt L j else if k=j then gt L (j-1)else gt L k:=fun k k0=>gW L (by omega) (by omega) (by omega) (by omega) k0
 intro p q p0 pq q1 qj;rw[g p (by omega),g q (by omega),if_neg (show ¬q=j-1 from qj)];by_cases e:q=j
 ·rw[if_pos e]
  by_cases e2:p=j-1
  ·rw[if_pos e2];exact w'
  ·rw[if_neg e2,if_neg (show ¬p=j by omega)]
   exact h p (j-1) p0 (by omega) (by omega) (by omega)
 ·rw[if_neg e]
  by_cases e2:p=j-1
  ·rw[if_pos e2]
   exact h j q (by omega) (by omega) q1 e
  ·rw[if_neg e2]
   by_cases e3:p=j
   ·rw[if_pos e3]
    exact h (j-1) q (by omega) (by omega) q1 e
   ·rw[if_neg e3]
    exact h p q p0 pq q1 e
end
theorem yU(h:af)(n:Nat){b:Nat}(hb:h.next<=b)(es:Nat)(cs:List Value):Ext h ((h.bump n).putAt b es cs):=
 ⟨by simp[af.bump,af.putAt],fun l=>by simp only[af.bump,af.putAt];omega,by simp only[af.bump,af.putAt];exact Nat.min_le_left _ _,fun i hi=>by
  simp only[af.bump,af.putAt];rw[cg.get_set_ne _ _ (by omega)]⟩
theorem jP{α:Type}{enc:α->List Value}(hok:∀x,(enc x).all aA=true)(l:List α):(l.flatMap enc).all aA=true:=by
 rw[List.all_flatMap];simp only[hok,List.all_eq_true,implies_true]
structure Hd where
 a:Option Addr
 n:Nat
 c:Nat
 deriving Inhabited
def Hd.cells(k:Hd):List Value:=[.slice k.a k.n k.c]
theorem dF(k:Hd):k.cells.length=1:=rfl
theorem uL(k:Hd):k.cells.all aA=true:=rfl
structure jX{α:Type}[Inhabited α](enc:α->List Value)(es:Nat)(h:af)(a:Option Addr)(N:Nat)(hs:List Hd)(g:List (List α)):Prop where
 hd:Rows Hd.cells 1 h a N hs
 len:g.length=N
 row:∀y:Int,0<=y->y<N->Rows enc es h (gt hs y).a (gt hs y).n (gt g y)
theorem jX.ext{α:Type}[Inhabited α]{enc:α->List Value}{es:Nat}{h h':af}{a:Option Addr}{N:Nat}{hs:List Hd}{g:List (List α)}(t:jX enc es h a N hs g)(e:Ext h h'):jX enc es h' a N hs g:=⟨t.hd.ext e,t.len,fun y y0 y1=>(t.row y y0 y1).ext e⟩
theorem jX.rowN{α:Type}[Inhabited α]{enc:α->List Value}{es:Nat}{h:af}{a:Option Addr}{N:Nat}{hs:List Hd}{g:List (List α)}(t:jX enc es h a N hs g){y:Int}(y0:0<=y)(y1:y<N):(gt g y).length=(gt hs y).n:=(t.row y y0 y1).len
def bY{α:Type}(cp:Nat)(bs:List Nat)(g:List (List α)):List Hd:=List.zipWith (fun b r=>⟨some ⟨b,0,none⟩,r.length,cp⟩) bs g
def gn{α:Type}(f:Nat->α)(n:Nat):List α:=(List.range n).map f
theorem aL{α:Type}(f:Nat->α)(n:Nat):(gn f n).length=n:=by unfold gn;simp
theorem io{α:Type}(f:Nat->α){n i:Nat}(h:i<n):(gn f n)[i]?=some (f i):=by unfold gn;simp[h]
theorem cO{α:Type}[Inhabited α](f:Nat->α){n i:Nat}(h:i<n):gt (gn f n) (i:Int)=f i:=by
 unfold gt;rw[List.getD_eq_getElem?_getD,show((i:Int)).toNat=i from rfl,io f h];rfl
theorem pJ{α:Type}(f:Nat->α)(n i:Nat)(v:α):(gn f n).set i v=gn (fun j=>if j=i then v else f j) n:=by
 apply List.ext_getElem?;intro j;rw[List.getElem?_set,aL];by_cases c:j<n
 ·rw[io _ c,io _ c]
  by_cases e:i=j
  ·subst e;simp[c]
  ·rw[if_neg e,if_neg (fun q=>e q.symm)]
 ·have e1:(gn f n)[j]?=none:=List.getElem?_eq_none (by rw[aL];omega)
  have e2:(gn (fun j=>if j=i then v else f j) n)[j]?=none:=List.getElem?_eq_none (by rw[aL];omega);rw[e1,e2];split
  ·rw[if_neg (by omega)]
  ·rfl
theorem di{α:Type}{f g:Nat->α}{n:Nat}(h:∀i,i<n->f i=g i):gn f n=gn g n:=by
 unfold gn;exact List.map_congr_left (fun i hi=>h i (List.mem_range.1 hi))
theorem gc{α:Type}(f:Nat->α)(n:Nat):gn f (n+1)=gn f n++[f n]:=by
 unfold gn;rw[List.range_succ,List.map_append];rfl
theorem EP{α:Type}[Inhabited α](l:List α):l=gn (fun i=>gt l (i:Int)) l.length:=by
 apply List.ext_getElem?;intro j;by_cases c:j<l.length
 ·rw[io _ c,List.getElem?_eq_getElem c]
  unfold gt;rw[List.getD_eq_getElem?_getD,show((j:Int)).toNat=j from rfl,List.getElem?_eq_getElem c];rfl
 ·rw[List.getElem?_eq_none (by omega),List.getElem?_eq_none (by rw[aL];omega)]
def Da(a b i:Nat):Nat:=if i=a then b else if i=b then a else i
end Go.Proofs.Ytdpbiegfljmhmaa
namespace Go.Proofs.Ytdpbiegfljmhmaa.Ext
abbrev aJ:=Nat->Int
abbrev Om:=List Bool->Int
def aO:Nat->aJ->Om->Om
 |0,_,_,_=>0
 |_+1,_,_,[]=>0
 |m+1,v,w,false :: I=>aO m v (fun J=>w (false :: J)) I
 |m+1,v,w,true :: I=>v m*w (false :: I)-aO m v (fun J=>w (true :: J)) I
theorem jY:∀(m:Nat) {u v:aJ} (w:Om) (I:List Bool),(∀i,i<m->u i=v i)->aO m u w I=aO m v w I
 |0,_,_,_,_,_=>rfl
 |_+1,_,_,_,[],_=>rfl
 |m+1,u,v,w,false :: I,h=>jY m _ I (fun i hi=>h i (by omega))
 |m+1,u,v,w,true :: I,h=>by
  show u m*_-aO m u _ I=v m*_-aO m v _ I;rw[jY m _ I (fun i hi=>h i (by omega)),h m (by omega)]
theorem gD:∀(m:Nat) (v:aJ) (I:List Bool),aO m v (fun _=>0) I=0
 |0,_,_=>rfl
 |_+1,_,[]=>rfl
 |m+1,v,false :: I=>gD m v I
 |m+1,v,true :: I=>by
  show v m*0-aO m v (fun _=>0) I=0;rw[gD m v I];omega
theorem gO:∀(m:Nat) (v:aJ) (a b:Int) (w z:Om) (I:List Bool),aO m v (fun J=>a*w J+b*z J) I=a*aO m v w I+b*aO m v z I
 |0,v,a,b,w,z,I=>by show(0:Int)=a*0+b*0;omega
 |_+1,v,a,b,w,z,[]=>by show(0:Int)=a*0+b*0;omega
 |m+1,v,a,b,w,z,false :: I=>gO m v a b _ _ I
 |m+1,v,a,b,w,z,true :: I=>by
  show v m*(a*w (false :: I)+b*z (false :: I))-aO m v (fun J=>a*w (true :: J)+b*z (true :: J)) I=a*(v m*w (false :: I)-aO m v (fun J=>w (true :: J)) I)+b*(v m*z (false :: I)-aO m v (fun J=>z (true :: J)) I);rw[gO m v a b _ _ I];grind
theorem kG:∀(m:Nat) (u v:aJ) (a b:Int) (w:Om) (I:List Bool),aO m (fun i=>a*u i+b*v i) w I=a*aO m u w I+b*aO m v w I
 |0,u,v,a,b,w,I=>by show(0:Int)=a*0+b*0;omega
 |_+1,u,v,a,b,w,[]=>by show(0:Int)=a*0+b*0;omega
 |m+1,u,v,a,b,w,false :: I=>kG m u v a b _ I
 |m+1,u,v,a,b,w,true :: I=>by
  show(a*u m+b*v m)*w (false :: I)-aO m (fun i=>a*u i+b*v i) _ I=a*(u m*w (false :: I)-aO m u _ I)+b*(v m*w (false :: I)-aO m v _ I);rw[kG m u v a b _ I];grind
theorem ju:∀(m:Nat) (v:aJ) (w:Om) (I:List Bool),aO m v (aO m v w) I=0
 |0,_,_,_=>rfl
 |_+1,_,_,[]=>rfl
 |m+1,v,w,false :: I=>ju m v (fun J=>w (false :: J)) I
 |m+1,v,w,true :: I=>by
  show v m*aO m v (fun J=>w (false :: J)) I-aO m v (fun J=>v m*w (false :: J)-aO m v (fun K=>w (true :: K)) J) I=0;have e:(fun J=>v m*w (false :: J)-aO m v (fun K=>w (true :: K)) J)=(fun J=>v m*w (false :: J)+(-1)*aO m v (fun K=>w (true :: K)) J):=by funext J;omega
  rw[e,gO m v (v m) (-1) (fun J=>w (false :: J)) (aO m v (fun K=>w (true :: K))) I,ju m v _ I];omega
theorem tZ(m:Nat)(u v:aJ)(w:Om)(I:List Bool):aO m u (aO m v w) I=-aO m v (aO m u w) I:=by
 have h:=ju m (fun i=>1*u i+1*v i) w I;have e:aO m (fun i=>1*u i+1*v i) w=fun J=>1*aO m u w J+1*aO m v w J:=by funext J;exact kG m u v 1 1 w J
 rw[e,kG m u v 1 1,gO m u 1 1 (aO m u w) (aO m v w) I,gO m v 1 1 (aO m u w) (aO m v w) I,ju,ju]at h;omega
def AV:Om:=fun I=>if I.all (fun b=>!b)then 1 else 0
def aX(m:Nat)(W:Nat->aJ):Nat->Om
 |0=>AV
 |k+1=>aO m (W k) (aX m W k)
def top(m:Nat):List Bool:=List.replicate m true
def Lt(m:Nat)(W:Nat->aJ):Int:=aX m W m (top m)
def put(W:Nat->aJ)(i:Nat)(a:aJ):Nat->aJ:=fun k=>if k=i then a else W k
theorem dQ{m:Nat}{W V:Nat->aJ}:∀(k:Nat),(∀j,j<k->∀i,i<m->W j i=V j i)->aX m W k=aX m V k
 |0,_=>rfl
 |k+1,h=>by
  funext I
  show aO m (W k) (aX m W k) I=aO m (V k) (aX m V k) I;rw[dQ k (fun j hj=>h j (by omega)),jY m _ I (h k (by omega))]
theorem tu{m:Nat}{W:Nat->aJ}{k:Nat}:∀(d:Nat) (I:List Bool),aO m (W k) (aX m W (k+1+d)) I=0
 |0,I=>ju m (W k) (aX m W k) I
 |d+1,I=>by
  show aO m (W k) (aO m (W (k+1+d)) (aX m W (k+1+d))) I=0;rw[tZ];have e:aO m (W k) (aX m W (k+1+d))=fun _=>0:=by funext J;exact tu d J
  rw[e,gD];rfl
theorem wB{m:Nat}{W:Nat->aJ}{k:Nat}(h:aX m W k=fun _=>0):∀d,aX m W (k+d)=fun _=>0
 |0=>h
 |d+1=>by
  funext I
  show aO m (W (k+d)) (aX m W (k+d)) I=0;rw[wB h d,gD]
theorem z9{m:Nat}{W:Nat->aJ}{i:Nat}{a b:aJ}{x y:Int}:∀(d:Nat),aX m (put W i (fun r=>x*a r+y*b r)) (i+1+d)=fun I=>x*aX m (put W i a) (i+1+d) I+y*aX m (put W i b) (i+1+d) I
 |0=>by
  have pre:∀c,aX m (put W i c) i=aX m W i:=fun c=>dQ i (fun j hj r hr=>by unfold put;rw[if_neg (by omega)])
  funext I
  show aO m (put W i (fun r=>x*a r+y*b r) i) (aX m (put W i (fun r=>x*a r+y*b r)) i) I=x*aO m (put W i a i) (aX m (put W i a) i) I+y*aO m (put W i b i) (aX m (put W i b) i) I;rw[pre,pre,pre];have e:∀c,put W i c i=c:=fun c=>by unfold put;rw[if_pos rfl]
  rw[e,e,e,kG]
 |d+1=>by
  funext I
  show aO m (put W i (fun r=>x*a r+y*b r) (i+1+d)) (aX m (put W i (fun r=>x*a r+y*b r)) (i+1+d)) I=x*aO m (put W i a (i+1+d)) (aX m (put W i a) (i+1+d)) I+y*aO m (put W i b (i+1+d)) (aX m (put W i b) (i+1+d)) I;have e:∀c,put W i c (i+1+d)=W (i+1+d):=fun c=>by unfold put;rw[if_neg (by omega)]
  rw[e,e,e,z9 d,gO]
def aK(f:Nat->Int):Nat->Int
 |0=>0
 |k+1=>aK f k+f k
theorem aG{f g:Nat->Int}:∀(n:Nat),(∀k,k<n->f k=g k)->aK f n=aK g n
 |0,_=>rfl
 |n+1,h=>by show aK f n+f n=aK g n+g n;rw[aG n (fun k hk=>h k (by omega)),h n (by omega)]
theorem hH(c:Int)(f:Nat->Int):∀n,aK (fun k=>c*f k) n=c*aK f n
 |0=>by show(0:Int)=c*0;omega
 |n+1=>by show aK (fun k=>c*f k) n+c*f n=c*(aK f n+f n);rw[hH c f n,Int.mul_add]
theorem mW(f g:Nat->Int):∀n,aK (fun k=>f k+g k) n=aK f n+aK g n
 |0=>rfl
 |n+1=>by show aK (fun k=>f k+g k) n+(f n+g n)=aK f n+f n+(aK g n+g n);rw[mW f g n];omega
theorem fI{f:Nat->Int}{i:Nat}:∀(n:Nat),i<n->(∀k,k<n->k≠i->f k=0)->aK f n=f i
 |0,h,_=>by omega
 |n+1,h,z=>by
  show aK f n+f n=f i;by_cases e:i=n
  ·subst e
   rw[aG (g:=fun _=>0) i (fun k hk=>z k (by omega) (by omega))];have:∀n,aK (fun _=>0) n=0:=fun n=>by induction n with|zero=>rfl|succ n ih=>show aK _ n+0=0;rw[ih];rfl
   rw[this];omega
  ·rw[fI n (by omega) (fun k hk=>z k (by omega)),z n (by omega) (by omega)];omega
theorem ig{W:Nat->aJ}{i:Nat}:put W i (W i)=W:=by
 funext k;unfold put;split
 ·rename_i e;rw[e]
 ·rfl
def E(i:Nat):aJ:=fun r=>if r=i then 1 else 0
theorem tK{m:Nat}{W:Nat->aJ}:∀(k:Nat),(∀j,j<k->W j m=0)->(∀I,aX (m+1) W k (false :: I)=aX m W k I)/\(∀I,aX (m+1) W k (true :: I)=0)
 |0,_=>⟨fun I=>rfl,fun I=>rfl⟩
 |k+1,h=>by
  obtain⟨h1,h2⟩:=tK k (fun j hj=>h j (by omega));have e1:(fun J=>aX (m+1) W k (false :: J))=aX m W k:=funext h1;have e2:(fun J=>aX (m+1) W k (true :: J))=fun _=>0:=funext h2
  constructor
  ·intro I
   show aO m (W k) (fun J=>aX (m+1) W k (false :: J)) I=aO m (W k) (aX m W k) I;rw[e1]
  ·intro I
   show W k m*aX (m+1) W k (false :: I)-aO m (W k) (fun J=>aX (m+1) W k (true :: J)) I=0;rw[e2,gD,h k (by omega)];omega
theorem yL:∀m,Lt m E=1
 |0=>rfl
 |m+1=>by
  obtain⟨h1,h2⟩:=tK (m:=m) (W:=E) m (fun j hj=>by unfold E;rw[if_neg (by omega)]);have e2:(fun J=>aX (m+1) E m (true :: J))=fun _=>0:=funext h2
  show E m m*aX (m+1) E m (false :: top m)-aO m (E m) (fun J=>aX (m+1) E m (true :: J)) (top m)=1;rw[e2,gD,h1];have:aX m E m (top m)=1:=yL m;rw[this];unfold E;rw[if_pos rfl];rfl
def vn:Nat->aJ->Nat
 |0,_=>0
 |m+1,v=>vn m v+(v m).natAbs
def ft(v:aJ):Nat->Nat->Nat
 |0,k=>k
 |f+1,k=>if v k≠0 then k else ft v f (k+1)
def aj(w:Nat)(v:aJ):Nat:=ft v w 0
theorem iG(v:aJ):∀(f k:Nat),k<=ft v f k/\ft v f k<=k+f/\(∀j,k<=j->j<ft v f k->v j=0)/\(ft v f k<k+f->v (ft v f k)≠0)
 |0,k=>⟨Nat.le_refl _,Nat.le_refl _,fun j h1 h2=>by simp only[ft]at h2;omega,fun h=>by simp only[ft]at h;omega⟩
 |f+1,k=>by
  by_cases c:v k≠0
  ·have e:ft v (f+1) k=k:=by show(if v k≠0 then k else _)=k;rw[if_pos c]
   rw[e];exact⟨Nat.le_refl _,by omega,fun j h1 h2=>by omega,fun _=>c⟩
  ·have e:ft v (f+1) k=ft v f (k+1):=by show(if v k≠0 then k else _)=_;rw[if_neg c]
   rw[e];obtain⟨h1,h2,h3,h4⟩:=iG v f (k+1);refine⟨by omega,by omega,fun j j1 j2=>?_,fun h=>h4 (by omega)⟩;by_cases e2:j=k
   ·subst e2;exact Classical.not_not.1 c
   ·exact h3 j (by omega) j2
theorem kX(w:Nat)(v:aJ):aj w v<=w:=by have:=(iG v w 0).2.1;unfold aj;omega
theorem aW{w:Nat}{v:aJ}{j:Nat}(h:j<aj w v):v j=0:=(iG v w 0).2.2.1 j (Nat.zero_le _) h
theorem jB{w:Nat}{v:aJ}(h:aj w v<w):v (aj w v)≠0:=(iG v w 0).2.2.2 (by unfold aj at h;omega)
theorem gi{w c:Nat}{v:aJ}(hc:c<=w)(hz:∀j,j<c->v j=0)(hn:c<w->v c≠0):aj w v=c:=by
 rcases Nat.lt_trichotomy (aj w v) c with h|h|h
 ·exact absurd (hz _ h) (jB (by omega))
 ·exact h
 ·exact absurd (aW h) (hn (by have:=kX w v;omega))
def Sp(w k:Nat)(F:Nat->aJ)(v:aJ):Prop:=∃y:Nat->Int,∀j,j<w->v j=aK (fun i=>y i*F i j) k
theorem Sp.congr{w k:Nat}{F:Nat->aJ}{u v:aJ}(h:Sp w k F u)(e:∀j,j<w->u j=v j):Sp w k F v:=by
 obtain⟨y,hy⟩:=h;exact⟨y,fun j hj=>by rw[<-e j hj];exact hy j hj⟩
theorem oz(n:Nat):aK (fun _=>0) n=0:=by induction n with|zero=>rfl|succ n ih=>show aK _ n+0=0;rw[ih];rfl
theorem Sp.row{w k:Nat}(F:Nat->aJ){i:Nat}(hi:i<k):Sp w k F (F i):=by
 refine⟨fun j=>if j=i then 1 else 0,fun j _=>?_⟩;show F i j=aK (fun m=>(if m=i then 1 else 0)*F m j) k;rw[fI (i:=i) k hi (fun m _ hm=>by show(if m=i then 1 else 0)*F m j=0;rw[if_neg hm];omega)];show F i j=(if i=i then 1 else 0)*F i j;rw[if_pos rfl];omega
theorem Sp.zero(w k:Nat)(F:Nat->aJ):Sp w k F (fun _=>0):=⟨fun _=>0,fun j _=>by
 show(0:Int)=aK (fun i=>0*F i j) k;rw[aG (g:=fun _=>0) k (fun i _=>by show 0*F i j=0;omega),oz]⟩
theorem Sp.comb{w k:Nat}{F:Nat->aJ}{u v:aJ}(a b:Int)(hu:Sp w k F u)(hv:Sp w k F v):Sp w k F (fun j=>a*u j+b*v j):=by
 obtain⟨y,hy⟩:=hu;obtain⟨z,hz⟩:=hv;refine⟨fun i=>a*y i+b*z i,fun j hj=>?_⟩;show a*u j+b*v j=aK (fun i=>(a*y i+b*z i)*F i j) k;rw[hy j hj,hz j hj,<-hH,<-hH,<-mW];exact aG k (fun i _=>by rw[Int.add_mul,Int.mul_assoc,Int.mul_assoc])
theorem Sp.sum{w k:Nat}{F:Nat->aJ}(y:Nat->Int)(G:Nat->aJ):∀n,(∀i,i<n->Sp w k F (G i))->Sp w k F (fun j=>aK (fun i=>y i*G i j) n)
 |0,_=>Sp.zero w k F
 |n+1,h=>(Sp.comb 1 (y n) (Sp.sum y G n (fun i hi=>h i (by omega))) (h n (by omega))).congr (fun j _=>by show 1*aK (fun i=>y i*G i j) n+y n*G n j=aK (fun i=>y i*G i j) n+y n*G n j;omega)
theorem Sp.le{w k k':Nat}{F F':Nat->aJ}(h:∀i,i<k'->Sp w k F (F' i)){v:aJ}(hv:Sp w k' F' v):Sp w k F v:=by
 obtain⟨y,hy⟩:=hv;exact(Sp.sum y F' k' h).congr (fun j hj=>(hy j hj).symm)
structure Bv(w k:Nat)(F:Nat->aJ):Prop where
 lt:∀i,i<k->aj w (F i)<w
 pos:∀i,i<k->0<F i (aj w (F i))
 inc:∀i j,i<j->j<k->aj w (F i)<aj w (F j)
 red:∀i j,i<j->j<k->0<=F i (aj w (F j))/\F i (aj w (F j))<F j (aj w (F j))
structure mH(w k:Nat)(F:Nat->aJ):Prop where
 lt:∀i,i<k->aj w (F i)<w
 pos:∀i,i<k->0<F i (aj w (F i))
 inc:∀i j,i<j->j<k->aj w (F i)<aj w (F j)
theorem Bv.stp{w k:Nat}{F:Nat->aJ}(h:Bv w k F):mH w k F:=⟨h.lt,h.pos,h.inc⟩
theorem Dp{f:Nat->Int}{i:Nat}:∀(n:Nat),i<n->(∀k,k<i->f k=0)->(∀k,i<k->k<n->f k=0)->aK f n=f i
 |n,h,z1,z2=>fI n h (fun k hk hne=>by rcases Nat.lt_or_gt_of_ne hne with q|q;exact z1 k q;exact z2 k q hk)
theorem HW{p:Nat->Nat}{k:Nat}(h:∀i j,i<j->j<k->p i<p j){i j:Nat}(hi:i<k)(hj:j<k)(e:p i=p j):i=j:=by
 rcases Nat.lt_trichotomy i j with q|q|q
 ·have:=h i j q hj;omega
 ·exact q
 ·have:=h j i q hi;omega
end Go.Proofs.Ytdpbiegfljmhmaa.Ext
namespace Go.Proofs.Ytdpbiegfljmhmaa
open Go.Sim
section
variable{α:Type}[Inhabited α]{le:α->α->Prop}
def qV(k:Int):Int:=(k-1) / 2
theorem wU{k r:Int}(h:qV k=r)(k0:0<k):k=2*r+1\/k=2*r+2:=by unfold qV at h;omega
theorem uP{k:Int}(k0:0<k):0<=qV k/\qV k<k:=by unfold qV;omega
def kx(le:α->α->Prop)(L:List α)(f lo hi:Int):Prop:=∀k:Int,0<k->k<hi->lo<=qV k->le (gt L (f+k)) (gt L (f+qV k))
structure mu(le:α->α->Prop)(L:List α)(f lo hi r:Int):Prop where
 rest:∀k:Int,0<k->k<hi->lo<=qV k->qV k≠r->le (gt L (f+k)) (gt L (f+qV k))
 over:∀k:Int,0<k->k<hi->qV k=r->0<r->lo<=qV r->le (gt L (f+k)) (gt L (f+qV r))
theorem mu.start{L:List α}{f lo hi:Int}(l0:0<=lo)(h:kx le L f (lo+1) hi):mu le L f lo hi lo:=
 ⟨fun k k0 k1 k2 k3=>h k k0 k1 (by omega),fun k k0 k1 k2 r0 k3=>by have:=uP r0;omega⟩
theorem mu.leaf{L:List α}{f lo hi r:Int}(h:mu le L f lo hi r)(hc:hi<=2*r+1):kx le L f lo hi:=fun k k0 k1 k2=>by
 by_cases e:qV k=r
 ·have:=wU e k0;omega
 ·exact h.rest k k0 k1 k2 e
theorem mu.stop(hp:EH le){L:List α}{f lo hi r c:Int}(h:mu le L f lo hi r)(hc:∀k:Int,0<k->k<hi->qV k=r->le (gt L (f+k)) (gt L (f+c)))(w:le (gt L (f+c)) (gt L (f+r))):kx le L f lo hi:=fun k k0 k1 k2=>by
 by_cases e:qV k=r
 ·rw[e];exact hp.trans _ _ _ (hc k k0 k1 e) w
 ·exact h.rest k k0 k1 k2 e
theorem mu.step(hp:EH le){L:List α}{f lo hi r c:Int}(f0:0<=f)(l0:0<=lo)(hl:f+hi<=L.length)(r0:lo<=r)(cr:c=2*r+1\/c=2*r+2)(c1:c<hi)(h:mu le L f lo hi r)(hc:∀k:Int,0<k->k<hi->qV k=r->le (gt L (f+k)) (gt L (f+c)))(w:le (gt L (f+r)) (gt L (f+c))) :
  mu le (cV L (f+r) (f+c)) f lo hi c:=by
 have cp:qV c=r:=by unfold qV;omega
 have g:∀k:Int,0<=k->gt (cV L (f+r) (f+c)) (f+k)=if k=c then gt L (f+r)else if k=r then gt L (f+c)else gt L (f+k):=fun k k0=>by
  rw[gW L (by omega) (by omega) (by omega) (by omega) (by omega)];by_cases e1:k=c
  ·rw[if_pos (by omega),if_pos e1]
  ·rw[if_neg (by omega),if_neg e1]
   by_cases e2:k=r
   ·rw[if_pos (by omega),if_pos e2]
   ·rw[if_neg (by omega),if_neg e2]
 refine⟨fun k k0 k1 k2 k3=>?_,fun k k0 k1 k2 c0 k3=>?_⟩
 ·have pk:=uP k0
  rw[g k (by omega),g (qV k) (by omega),if_neg k3];by_cases e:qV k=r
  ·rw[if_pos e]
   by_cases e2:k=c
   ·rw[if_pos e2];exact w
   ·rw[if_neg e2,if_neg (by omega)]
    exact hc k k0 k1 e
  ·rw[if_neg e,if_neg (fun q=>e (by rw[q];exact cp))]
   by_cases e2:k=r
   ·subst e2
    rw[if_pos rfl];exact h.over c (by omega) c1 cp k0 k2
   ·rw[if_neg e2]
    exact h.rest k k0 k1 k2 e
 ·rw[g k (by omega),g (qV c) (by rw[cp];omega),cp]
  have:=uP k0;rw[if_neg (by omega),if_neg (by omega),if_neg (by omega),if_pos rfl];have:=h.rest k k0 k1 (by omega) (by omega);rw[k2]at this;exact this
theorem kx.top(hp:EH le){L:List α}{f hi:Int}(h:kx le L f 0 hi):∀(n:Nat) (k:Int),k.toNat<=n->0<=k->k<hi->le (gt L (f+k)) (gt L (f+0)):=by
 intro n
 induction n with
 |zero=>intro k hk k0 k1;rw[show k=0 by omega];exact hp.refl _
 |succ n ih=>
  intro k hk k0 k1;by_cases e:k=0
  ·rw[e];exact hp.refl _
  ·have pk:=uP (k:=k) (by omega)
   exact hp.trans _ _ _ (h k (by omega) k1 pk.1) (ih (qV k) (by omega) pk.1 (by omega))
structure Gk(le:α->α->Prop)(L:List α)(f i b:Int):Prop where
 heap:kx le L f 0 (i-f)
 up:aC le L i b
 cross:∀p q:Int,f<=p->p<i->i<=q->q<b->le (gt L p) (gt L q)
theorem Gk.swap(hp:EH le){L:List α}{f i b:Int}(f0:0<=f)(hl:b<=L.length)(h:Gk le L f (i+1) b)(i0:f<=i)(i1:i<b) :
  mu le (cV L f i) f 0 (i-f) 0/\aC le (cV L f i) i b/\∀p q:Int,f<=p->p<i->i<=q->q<b->le (gt (cV L f i) p) (gt (cV L f i) q):=by
 have g:∀k:Int,0<=k->gt (cV L f i) k=if k=i then gt L f else if k=f then gt L i else gt L k:=fun k k0=>gW L (by omega) (by omega) (by omega) (by omega) k0
 have top:∀p:Int,f<=p->p<i+1->le (gt L p) (gt L f):=fun p p0 p1=>by
  have:=h.heap.top hp (p-f).toNat (p-f) (by omega) (by omega) (by omega);rw[show f+(p-f)=p by omega,Int.add_zero]at this;exact this
 refine⟨⟨fun k k0 k1 k2 k3=>?_,fun k k0 k1 k2 r0=>by omega⟩,fun p q p0 pq q1=>?_,fun p q p0 p1 q0 q1=>?_⟩
 ·have pk:=uP k0
  rw[g _ (by omega),g _ (by omega),if_neg (by omega),if_neg (by omega),if_neg (by omega),if_neg (by omega)];exact h.heap k k0 (by omega) k2
 ·rw[g p (by omega),g q (by omega),if_neg (show ¬q=i by omega),if_neg (show ¬q=f by omega)]
  by_cases e:p=i
  ·rw[if_pos e];exact h.cross f q (by omega) (by omega) (by omega) q1
  ·rw[if_neg e,if_neg (by omega)]
   exact h.up p q (by omega) pq q1
 ·rw[g p (by omega),g q (by omega),if_neg (show ¬p=i by omega)]
  have le1:∀x,(∃k:Int,f<=k/\k<i+1/\x=gt L k)->le x (if q=i then gt L f else if q=f then gt L i else gt L q):=by
   rintro x ⟨k,k0,k1,rfl⟩;by_cases e:q=i
   ·rw[if_pos e];exact top k k0 k1
   ·rw[if_neg e,if_neg (by omega)]
    exact h.cross k q k0 k1 (by omega) q1
  by_cases e:p=f
  ·rw[if_pos e];exact le1 _ ⟨i,i0,by omega,rfl⟩
  ·rw[if_neg e];exact le1 _ ⟨p,p0,by omega,rfl⟩
theorem aD.keep{L M:List α}{f i b:Int}(f0:0<=f)(h:aD f i L M)(fi:f<=i)(up:aC le L i b)(cross:∀p q:Int,f<=p->p<i->i<=q->q<b->le (gt L p) (gt L q)) :
  aC le M i b/\∀p q:Int,f<=p->p<i->i<=q->q<b->le (gt M p) (gt M q):=by
 constructor
 ·intro p q p0 pq q1
  rw[h.out p (by omega) (by omega),h.out q (by omega) (by omega)];exact up p q p0 pq q1
 ·intro p q p0 p1 q0 q1
  rw[h.out q (by omega) (by omega)];exact h.all (fun x=>le x (gt L q)) (fun k k0 k1=>cross k q k0 k1 q0 q1) p p0 p1
theorem aC.join{L:List α}{a m b:Int}(h1:aC le L a m)(h2:aC le L m b)(cross:∀p q:Int,a<=p->p<m->m<=q->q<b->le (gt L p) (gt L q)):aC le L a b:=by
 intro p q p0 pq q1;by_cases c1:q<m
 ·exact h1 p q p0 pq c1
 ·by_cases c2:p<m
  ·exact cross p q p0 c2 (by omega) q1
  ·exact h2 p q (by omega) pq q1
theorem aC.one{L:List α}{a b:Int}(h:b<=a+1):aC le L a b:=fun p q p0 pq q1=>by omega
end
section
variable{α:Type}[Inhabited α]{le:α->α->Prop}
structure iV(le:α->α->Prop)(L:List α)(a b i j:Int):Prop where
 i0:a<i
 j1:j<b
 ij:i<=j+1
 low:∀p:Int,a<p->p<i->le (gt L p) (gt L a)
 high:∀p:Int,j<p->p<b->le (gt L a) (gt L p)
theorem iV.start(L:List α){a b:Int}(h:a<b):iV le L a b (a+1) (b-1):=⟨by omega,by omega,by omega,fun p p0 p1=>by omega,fun p p0 p1=>by omega⟩
theorem iV.left{L:List α}{a b i j:Int}(h:iV le L a b i j)(c:i<=j)(w:le (gt L i) (gt L a)):iV le L a b (i+1) j:=
 ⟨by have:=h.i0;omega,h.j1,by omega,fun p p0 p1=>by
  by_cases e:p=i
  ·rw[e];exact w
  ·exact h.low p p0 (by omega),h.high⟩
theorem iV.right{L:List α}{a b i j:Int}(h:iV le L a b i j)(c:i<=j)(w:le (gt L a) (gt L j)):iV le L a b i (j-1):=
 ⟨h.i0,by have:=h.j1;omega,by omega,h.low,fun p p0 p1=>by
  by_cases e:p=j
  ·rw[e];exact w
  ·exact h.high p (by omega) p1⟩
theorem iV.swap{L:List α}{a b i j:Int}(a0:0<=a)(hb:b<=L.length)(h:iV le L a b i j)(c:i<j)(w1:le (gt L a) (gt L i))(w2:le (gt L j) (gt L a)):iV le (cV L i j) a b (i+1) (j-1):=by
 have hi:=h.i0;have hj:=h.j1;have g:∀k:Int,0<=k->gt (cV L i j) k=if k=j then gt L i else if k=i then gt L j else gt L k:=fun k k0=>gW L (by omega) (by omega) (by omega) (by omega) k0
 refine⟨by omega,by omega,by omega,fun p p0 p1=>?_,fun p p0 p1=>?_⟩
 ·rw[g p (by omega),g a a0,if_neg (show ¬p=j by omega),if_neg (show ¬a=j by omega),if_neg (show ¬a=i by omega)]
  by_cases e:p=i
  ·rw[if_pos e];exact w2
  ·rw[if_neg e];exact h.low p p0 (by omega)
 ·rw[g p (by omega),g a a0,if_neg (show ¬a=j by omega),if_neg (show ¬a=i by omega)]
  by_cases e:p=j
  ·rw[if_pos e];exact w1
  ·rw[if_neg e,if_neg (by omega)];exact h.high p (by omega) p1
theorem iV.done{L:List α}{a b i j:Int}(a0:0<=a)(hb:b<=L.length)(h:iV le L a b i j)(c:j<i) :
  (∀p:Int,a<=p->p<j->le (gt (cV L j a) p) (gt (cV L j a) j))/\(∀p:Int,j<p->p<b->le (gt (cV L j a) j) (gt (cV L j a) p)):=by
 have hi:=h.i0;have hj:=h.j1;have ij:=h.ij;have g:∀k:Int,0<=k->gt (cV L j a) k=if k=a then gt L j else if k=j then gt L a else gt L k:=fun k k0=>gW L (by omega) (by omega) (by omega) (by omega) k0
 have gj:gt (cV L j a) j=gt L a:=by
  rw[g j (by omega)];by_cases e:j=a
  ·rw[if_pos e,e]
  ·rw[if_neg e,if_pos rfl]
 rw[gj];refine⟨fun p p0 p1=>?_,fun p p0 p1=>?_⟩
 ·rw[g p (by omega)]
  by_cases e:p=a
  ·rw[if_pos e];exact h.low j (by omega) (by omega)
  ·rw[if_neg e,if_neg (by omega)];exact h.low p (by omega) (by omega)
 ·rw[g p (by omega),if_neg (by omega),if_neg (by omega)]
  exact h.high p p0 p1
structure vk(le:α->α->Prop)(L:List α)(A B a b:Int):Prop where
 s1:aC le L A a
 s2:aC le L b B
 c1:∀p q:Int,A<=p->p<a->a<=q->q<B->le (gt L p) (gt L q)
 c2:∀p q:Int,A<=p->p<b->b<=q->q<B->le (gt L p) (gt L q)
 r0:A<=a
 r1:a<=b
 r2:b<=B
theorem vk.start(L:List α){A B:Int}(h:A<=B):vk le L A B A B:=⟨fun p q p0 pq q1=>by omega,fun p q p0 pq q1=>by omega,fun p q p0 p1 q0 q1=>by omega,fun p q p0 p1 q0 q1=>by omega,Int.le_refl _,h,Int.le_refl _⟩
theorem vk.perm{L M:List α}{A B a b:Int}(A0:0<=A)(h:vk le L A B a b)(k:aD a b L M):vk le M A B a b:=by
 have r0:=h.r0;have r1:=h.r1;refine⟨fun p q p0 pq q1=>?_,fun p q p0 pq q1=>?_,fun p q p0 p1 q0 q1=>?_,fun p q p0 p1 q0 q1=>?_,h.r0,h.r1,h.r2⟩
 ·rw[k.out p (by omega) (by omega),k.out q (by omega) (by omega)]
  exact h.s1 p q p0 pq q1
 ·rw[k.out p (by omega) (by omega),k.out q (by omega) (by omega)]
  exact h.s2 p q p0 pq q1
 ·rw[k.out p (by omega) (by omega)]
  by_cases c:q<b
  ·exact k.all (fun x=>le (gt L p) x) (fun j j0 j1=>h.c1 p j p0 p1 j0 (by have:=h.r2;omega)) q q0 c
  ·rw[k.out q (by omega) (by omega)]
   exact h.c1 p q p0 p1 q0 q1
 ·rw[k.out q (by omega) (by omega)]
  by_cases c:a<=p
  ·exact k.all (fun x=>le x (gt L q)) (fun j j0 j1=>h.c2 j q (by omega) j1 q0 q1) p c p1
  ·rw[k.out p (by omega) (by omega)]
   exact h.c2 p q p0 p1 q0 q1
theorem vk.done{L:List α}{A B a b:Int}(h:vk le L A B a b)(s:aC le L a b):aC le L A B:=by
 have r2:=h.r2;refine aC.join (aC.join h.s1 s (fun p q p0 p1 q0 q1=>h.c1 p q p0 p1 q0 (by omega))) h.s2 (fun p q p0 p1 q0 q1=>h.c2 p q p0 p1 q0 q1)
theorem vk.left(hp:EH le){L M:List α}{A B a b m:Int}(A0:0<=A)(h:vk le L A B a b)(am:a<=m)(mb:m<b)(h1:∀p:Int,a<=p->p<m->le (gt L p) (gt L m))(h2:∀p:Int,m<p->p<b->le (gt L m) (gt L p))(k:aD a m L M)(s:aC le M a m):vk le M A B (m+1) b:=by
 have r0:=h.r0;have r2:=h.r2;have kw:=k.wide (a:=a) (b:=b) (by omega) (by omega) (by omega);have hM:=h.perm A0 kw;have m1:∀p:Int,a<=p->p<m->le (gt M p) (gt M m):=fun p p0 p1=>by
  rw[k.out m (by omega) (by omega)];exact k.all (fun x=>le x (gt L m)) (fun j j0 j1=>h1 j j0 j1) p p0 p1
 have m2:∀q:Int,m<q->q<B->le (gt M m) (gt M q):=fun q q0 q1=>by
  by_cases c:q<b
  ·rw[k.out m (by omega) (by omega),k.out q (by omega) (by omega)]
   exact h2 q q0 c
  ·exact hM.c2 m q (by omega) mb (by omega) q1
 refine⟨?_,hM.s2,fun p q p0 p1 q0 q1=>?_,hM.c2,by omega,by omega,h.r2⟩
 ·refine aC.join (m:=a) hM.s1 (aC.join (m:=m) s (aC.one (by omega)) (fun p q p0 p1 q0 q1=>?_)) (fun p q p0 p1 q0 q1=>hM.c1 p q p0 p1 q0 (by omega))
  rw[show q=m by omega];exact m1 p p0 p1
 ·by_cases c:p<a
  ·exact hM.c1 p q p0 c (by omega) q1
  ·by_cases e:p=m
   ·rw[e];exact m2 q (by omega) q1
   ·exact hp.trans _ _ _ (m1 p (by omega) (by omega)) (m2 q (by omega) q1)
theorem vk.right(hp:EH le){L M:List α}{A B a b m:Int}(A0:0<=A)(h:vk le L A B a b)(am:a<=m)(mb:m<b)(h1:∀p:Int,a<=p->p<m->le (gt L p) (gt L m))(h2:∀p:Int,m<p->p<b->le (gt L m) (gt L p))(k:aD (m+1) b L M)(s:aC le M (m+1) b):vk le M A B a m:=by
 have r0:=h.r0;have r2:=h.r2;have kw:=k.wide (a:=a) (b:=b) (by omega) (by omega) (by omega);have hM:=h.perm A0 kw;have m2:∀q:Int,m<q->q<b->le (gt M m) (gt M q):=fun q q0 q1=>by
  rw[k.out m (by omega) (by omega)];exact k.all (fun x=>le (gt L m) x) (fun j j0 j1=>h2 j (by omega) j1) q (by omega) q1
 have m1:∀p:Int,A<=p->p<m->le (gt M p) (gt M m):=fun p p0 p1=>by
  by_cases c:a<=p
  ·rw[k.out m (by omega) (by omega),k.out p (by omega) (by omega)]
   exact h1 p c p1
  ·exact hM.c1 p m p0 (by omega) am (by omega)
 have c3:∀p q:Int,A<=p->p<=m->m<q->q<B->le (gt M p) (gt M q):=fun p q p0 p1 q0 q1=>by
  by_cases c:q<b
  ·by_cases e:p=m
   ·rw[e];exact m2 q q0 c
   ·exact hp.trans _ _ _ (m1 p p0 (by omega)) (m2 q q0 c)
  ·exact hM.c2 p q p0 (by omega) (by omega) q1
 refine⟨hM.s1,?_,hM.c1,fun p q p0 p1 q0 q1=>?_,by omega,by omega,by omega⟩
 ·refine aC.join (m:=m+1) (aC.one (by omega)) (aC.join (m:=b) s hM.s2 (fun p q p0 p1 q0 q1=>hM.c2 p q (by omega) p1 q0 q1)) (fun p q p0 p1 q0 q1=>?_)
  exact c3 p q (by omega) (by omega) (by omega) q1
 ·by_cases e:q=m
  ·rw[e];exact m1 p p0 p1
  ·exact c3 p q p0 (by omega) (by omega) q1
theorem vk.equal{L:List α}{A B a b m:Int}(h:vk le L A B a b)(am:a<=m)(mb:m<=b)(e:∀p q:Int,a<=p->p<m->a<=q->q<b->le (gt L p) (gt L q)):vk le L A B m b:=by
 have r0:=h.r0;have r2:=h.r2;refine⟨aC.join (m:=a) h.s1 (fun p q p0 pq q1=>e p q p0 (by omega) (by omega) (by omega)) (fun p q p0 p1 q0 q1=>h.c1 p q p0 p1 q0 (by omega)),h.s2,fun p q p0 p1 q0 q1=>?_,h.c2,by omega,by omega,h.r2⟩;by_cases c:p<a
 ·exact h.c1 p q p0 c (by omega) q1
 ·by_cases d:q<b
  ·exact e p q (by omega) p1 (by omega) d
  ·exact h.c2 p q p0 (by omega) (by omega) q1
end
end Go.Proofs.Ytdpbiegfljmhmaa
namespace Go.Proofs.Ytdpbiegfljmhmaa.Ext
def cnt:List Bool->Nat
 | []=>0
 |true :: I=>cnt I+1
 |false :: I=>cnt I
theorem yu:∀m,cnt (top m)=m
 |0=>rfl
 |m+1=>by show cnt (top m)+1=m+1;rw[yu m]
theorem ut{a b:Int}{A B:Nat}(ha:a.natAbs<=A)(hb:b.natAbs<=B):(a*b).natAbs<=A*B:=by
 rw[Int.natAbs_mul];exact Nat.mul_le_mul ha hb
theorem tn:∀(m:Nat) (v:aJ) (w:Om) (I:List Bool) (B:Nat),(∀J,cnt J+1=cnt I->(w J).natAbs<=B)->(aO m v w I).natAbs<=vn m v*B
 |0,v,w,I,B,h=>by show(0:Int).natAbs<=_;simp
 |m+1,v,w,[],B,h=>by show(0:Int).natAbs<=_;simp
 |m+1,v,w,false :: I,B,h=>by
  have:=tn m v (fun J=>w (false :: J)) I B (fun J hJ=>h (false :: J) hJ);show(aO m v (fun J=>w (false :: J)) I).natAbs<=(vn m v+(v m).natAbs)*B;rw[Nat.add_mul];omega
 |m+1,v,w,true :: I,B,h=>by
  have h1:=tn m v (fun J=>w (true :: J)) I B (fun J hJ=>h (true :: J) (by show cnt J+1+1=cnt I+1;omega));have h2:(v m*w (false :: I)).natAbs<=(v m).natAbs*B:=ut (Nat.le_refl _) (h (false :: I) rfl);show(v m*w (false :: I)-aO m v (fun J=>w (true :: J)) I).natAbs<=(vn m v+(v m).natAbs)*B;rw[Nat.add_mul];omega
theorem qS:∀(m:Nat) (v:aJ) (w:Om) (I:List Bool) (M B:Nat),(∀i,i<m->(v i).natAbs<=M)->(∀J,cnt J+1=cnt I->(w J).natAbs<=B)->(aO m v w I).natAbs<=cnt I*(M*B)
 |0,v,w,I,M,B,_,_=>by show(0:Int).natAbs<=_;simp
 |m+1,v,w,[],M,B,_,_=>by show(0:Int).natAbs<=_;simp
 |m+1,v,w,false :: I,M,B,hv,h=>qS m v (fun J=>w (false :: J)) I M B (fun i hi=>hv i (by omega)) (fun J hJ=>h (false :: J) hJ)
 |m+1,v,w,true :: I,M,B,hv,h=>by
  have h1:=qS m v (fun J=>w (true :: J)) I M B (fun i hi=>hv i (by omega)) (fun J hJ=>h (true :: J) (by show cnt J+1+1=cnt I+1;omega));have h2:(v m*w (false :: I)).natAbs<=M*B:=ut (hv m (by omega)) (h (false :: I) rfl);show(v m*w (false :: I)-aO m v (fun J=>w (true :: J)) I).natAbs<=(cnt I+1)*(M*B);rw[Nat.add_mul];omega
def pI:Nat->Nat->Nat
 |_,0=>1
 |c,k+1=>c*pI (c-1) k
theorem uy{m:Nat}{W:Nat->aJ}{M:Nat}:∀(k:Nat),(∀y,y<k->∀i,i<m->(W y i).natAbs<=M)->∀I,(aX m W k I).natAbs<=pI (cnt I) k*M ^ k
 |0,_,I=>by
  show(AV I).natAbs<=1*1;unfold AV;split<;>simp
 |k+1,h,I=>by
  have:=qS m (W k) (aX m W k) I M (pI (cnt I-1) k*M ^ k) (h k (by omega)) (fun J hJ=>by
   have:=uy k (fun y hy=>h y (by omega)) J;rw[show cnt I-1=cnt J by omega];exact this)
  show(aO m (W k) (aX m W k) I).natAbs<=cnt I*pI (cnt I-1) k*M ^ (k+1);rw[Nat.pow_succ];have e:cnt I*(M*(pI (cnt I-1) k*M ^ k))=cnt I*pI (cnt I-1) k*(M ^ k*M):=by
   rw[Nat.mul_comm M,Nat.mul_assoc,Nat.mul_assoc]
  omega
theorem uJ{m n:Nat}{W:Nat->aJ}{i k:Nat}(hi:i<n)(hk:k<n)(hne:i≠k)(e:∀r,r<m->W i r=W k r):aX m W n=fun _=>0:=by
 have one:∀{i k:Nat},i<n->k<i->(∀r,r<m->W i r=W k r)->aX m W n=fun _=>0:=by
  intro i k hi hk e;have h:aX m W (i+1)=fun _=>0:=by
   funext I
   show aO m (W i) (aX m W i) I=0;rw[jY m _ I e,show i=k+1+(i-(k+1)) by omega];exact tu _ I
  have:=wB h (n-(i+1));rw[show i+1+(n-(i+1))=n by omega]at this;exact this
 rcases Nat.lt_or_gt_of_ne hne with q|q
 ·exact one hk q (fun r hr=>(e r hr).symm)
 ·exact one hi q e
theorem mT{m n:Nat}{W:Nat->aJ}{i:Nat}(hi:i<n)(a b:aJ)(x y:Int)(I:List Bool):aX m (put W i (fun r=>x*a r+y*b r)) n I=x*aX m (put W i a) n I+y*aX m (put W i b) n I:=by
 have:=z9 (m:=m) (W:=W) (i:=i) (a:=a) (b:=b) (x:=x) (y:=y) (n-(i+1));rw[show i+1+(n-(i+1))=n by omega]at this;rw[this]
theorem Er{m n:Nat}{W:Nat->aJ}{i:Nat}(hi:i<n)(hz:∀r,r<m->W i r=0)(I:List Bool):aX m W n I=0:=by
 have:=mT (m:=m) (W:=W) hi (W i) (W i) 0 0 I;rw[dQ (W:=put W i (fun r=>0*W i r+0*W i r)) (V:=W) n (fun j hj r hr=>by
  unfold put;split
  ·rename_i e;rw[e];show 0*W i r+0*W i r=W i r;rw[hz r hr];rfl
  ·rfl)]at this
 omega
theorem GT{m n:Nat}{W:Nat->aJ}{r y:Nat}(hr:r<n)(hy:y<n)(hne:r≠y)(t:Int)(I:List Bool):aX m (put W r (fun j=>W r j-t*W y j)) n I=aX m W n I:=by
 have e:(fun j=>W r j-t*W y j)=(fun j=>1*W r j+(-t)*W y j):=by funext j;rw[Int.neg_mul];omega
 rw[e,mT hr,ig,uJ (W:=put W r (W y)) hr hy hne (fun j _=>by unfold put;rw[if_pos rfl,if_neg (by omega)])];show 1*aX m W n I + -t*0=aX m W n I;omega
theorem lE{W:Nat->aJ}{i k:Nat}(h:i≠k)(a b:aJ):put (put W i a) k b=put (put W k b) i a:=by
 funext j;unfold put
 by_cases h1:j=k
 ·rw[if_pos h1]
  by_cases h2:j=i
  ·omega
  ·rw[if_neg h2,if_pos h1]
 ·rw[if_neg h1]
  by_cases h2:j=i
  ·rw[if_pos h2,if_pos h2]
  ·rw[if_neg h2,if_neg h2,if_neg h1]
theorem gY{W:Nat->aJ}{i:Nat}(a b:aJ):put (put W i a) i b=put W i b:=by
 funext j;unfold put;split<;>rfl
theorem EA{m n:Nat}{W:Nat->aJ}{i k:Nat}(hi:i<n)(hk:k<n)(hne:i≠k)(I:List Bool):aX m (put (put W i (W k)) k (W i)) n I=-aX m W n I:=by
 let P:aJ->aJ->Int:=fun a b=>aX m (put (put W i a) k b) n I
 have two:∀a,P a a=0:=fun a=>by
  show aX m (put (put W i a) k a) n I=0;rw[uJ (W:=put (put W i a) k a) hi hk hne (fun r _=>by unfold put;rw[if_neg hne,if_pos rfl,if_pos rfl])]
 have lin1:∀a a' b,P (fun r=>1*a r+1*a' r) b=1*P a b+1*P a' b:=fun a a' b=>by
  show aX m (put (put W i _) k b) n I=_;rw[lE hne,mT hi,<-lE hne,<-lE hne]
 have lin2:∀a b b',P a (fun r=>1*b r+1*b' r)=1*P a b+1*P a b':=fun a b b'=>mT hk _ _ _ _ _
 have h:=two (fun r=>1*W i r+1*W k r);rw[lin1,lin2,lin2,two,two]at h;have e1:P (W i) (W k)=aX m W n I:=by
  show aX m (put (put W i (W i)) k (W k)) n I=_;rw[ig,ig]
 have e2:P (W k) (W i)=aX m (put (put W i (W k)) k (W i)) n I:=rfl;omega
theorem Fr{m n:Nat}{W:Nat->aJ}{i:Nat}(hi:i<n)(I:List Bool):aX m (put W i (fun r=>-(W i r))) n I=-aX m W n I:=by
 have e:(fun r=>-(W i r))=(fun r=>(-1)*W i r+0*W i r):=by funext r;omega
 rw[e,mT hi,ig];omega
def rv(k:Nat)(F:Nat->aJ)(J:Nat->Nat):Nat->aJ:=fun y i=>F (k-1-y) (J i)
structure jj(w k:Nat)(F F0:Nat->aJ):Prop where
 le:∀i,i<k->Sp w k F0 (F i)
 ge:∀i,i<k->Sp w k F (F0 i)
 sgn:∃s:Int,(s=1\/s=-1)/\∀d J I,aX d (rv k F J) k I=s*aX d (rv k F0 J) k I
theorem jj.abs{w k:Nat}{F F0:Nat->aJ}(h:jj w k F F0)(d:Nat)(J:Nat->Nat)(I:List Bool):(aX d (rv k F J) k I).natAbs=(aX d (rv k F0 J) k I).natAbs:=by
 obtain⟨s,hs,e⟩:=h.sgn;have:=e d J I;rcases hs with rfl|rfl<;>omega
theorem jj.refl(w k:Nat)(F:Nat->aJ):jj w k F F:=⟨fun i hi=>Sp.row F hi,fun i hi=>Sp.row F hi,1,.inl rfl,fun _ _ _=>(Int.one_mul _).symm⟩
theorem jj.trans{w k:Nat}{F F1 F0:Nat->aJ}(h:jj w k F F1)(h0:jj w k F1 F0):jj w k F F0:=by
 obtain⟨s,hs,e⟩:=h.sgn;obtain⟨s0,hs0,e0⟩:=h0.sgn;refine⟨fun i hi=>Sp.le h0.le (h.le i hi),fun i hi=>Sp.le h.ge (h0.ge i hi),s*s0,?_,fun d J I=>by rw[e,e0,Int.mul_assoc]⟩;rcases hs with rfl|rfl<;>rcases hs0 with rfl|rfl<;>simp
theorem Ge{k:Nat}{F:Nat->aJ}{J:Nat->Nat}{r:Nat}(hr:r<k)(v:aJ):∀y,y<k->∀i,rv k (put F r v) J y i=put (rv k F J) (k-1-r) (fun i=>v (J i)) y i:=by
 intro y hy i;unfold rv put;by_cases e:k-1-y=r
 ·rw[if_pos e,if_pos (by omega)]
 ·rw[if_neg e,if_neg (by omega)]
theorem jj.sub{w k:Nat}{F:Nat->aJ}{r y:Nat}(hr:r<k)(hy:y<k)(hne:r≠y)(t:Int):jj w k (put F r (fun j=>F r j-t*F y j)) F:=by
 have hp:∀i,i≠r->put F r (fun j=>F r j-t*F y j) i=F i:=fun i hi=>by unfold put;rw[if_neg hi]
 have hq:put F r (fun j=>F r j-t*F y j) r=fun j=>F r j-t*F y j:=by unfold put;rw[if_pos rfl]
 refine⟨fun i hi=>?_,fun i hi=>?_,1,.inl rfl,fun d J I=>?_⟩
 ·by_cases e:i=r
  ·subst e;rw[hq]
   exact((Sp.row F hr).comb 1 (-t) (Sp.row F hy)).congr (fun j _=>by rw[Int.neg_mul];omega)
  ·rw[hp i e];exact Sp.row F hi
 ·by_cases e:i=r
  ·subst e
   have h1:=Sp.row (w:=w) (put F i (fun j=>F i j-t*F y j)) hr;have h2:=Sp.row (w:=w) (put F i (fun j=>F i j-t*F y j)) hy;rw[hq]at h1;rw[hp y (by omega)]at h2;exact(h1.comb 1 t h2).congr (fun j _=>by omega)
  ·have:=Sp.row (w:=w) (put F r (fun j=>F r j-t*F y j)) hi
   rw[hp i e]at this;exact this
 ·rw[dQ k (fun y hy i _=>Ge hr _ y hy i)]
  have:=GT (m:=d) (n:=k) (W:=rv k F J) (r:=k-1-r) (y:=k-1-y) (by omega) (by omega) (by omega) t I;have e1:(fun i=>rv k F J (k-1-r) i-t*rv k F J (k-1-y) i)=fun i=>F r (J i)-t*F y (J i):=by
   funext i;unfold rv;rw[show k-1-(k-1-r)=r by omega,show k-1-(k-1-y)=y by omega]
  rw[e1]at this;rw[this,Int.one_mul]
def Hw(F:Nat->aJ)(a b:Nat):Nat->aJ:=put (put F a (F b)) b (F a)
theorem jj.swap{w k:Nat}{F:Nat->aJ}{a b:Nat}(ha:a<k)(hb:b<k):jj w k (Hw F a b) F:=by
 by_cases hne:a=b
 ·subst hne;unfold Hw;rw[ig,ig];exact .refl _ _ _
 have hv:∀i,Hw F a b i=if i=b then F a else if i=a then F b else F i:=fun i=>rfl
 refine⟨fun i hi=>?_,fun i hi=>?_,-1,.inr rfl,fun d J I=>?_⟩
 ·rw[hv];split
  ·exact Sp.row F ha
  ·split
   ·exact Sp.row F hb
   ·exact Sp.row F hi
 ·by_cases e:i=a
  ·have:=Sp.row (w:=w) (Hw F a b) hb
   rw[hv,if_pos rfl]at this;rw[e];exact this
  ·by_cases e2:i=b
   ·have:=Sp.row (w:=w) (Hw F a b) ha
    rw[hv,if_neg hne,if_pos rfl]at this;rw[e2];exact this
   ·have:=Sp.row (w:=w) (Hw F a b) hi
    rw[hv,if_neg e2,if_neg e]at this;exact this
 ·have e:∀y,y<k->∀i,i<d->rv k (Hw F a b) J y i=put (put (rv k F J) (k-1-a) (rv k F J (k-1-b))) (k-1-b) (rv k F J (k-1-a)) y i:=by
   intro y hy i _;show Hw F a b (k-1-y) (J i)=(if y=k-1-b then rv k F J (k-1-a)else if y=k-1-a then rv k F J (k-1-b)else rv k F J y) i;rw[hv];by_cases e1:k-1-y=b
   ·rw[if_pos e1,if_pos (show y=k-1-b by omega)]
    unfold rv;rw[show k-1-(k-1-a)=a by omega]
   ·rw[if_neg e1,if_neg (show ¬y=k-1-b by omega)]
    by_cases e2:k-1-y=a
    ·rw[if_pos e2,if_pos (show y=k-1-a by omega)]
     unfold rv;rw[show k-1-(k-1-b)=b by omega]
    ·rw[if_neg e2,if_neg (show ¬y=k-1-a by omega)];rfl
  rw[dQ k e,EA (by omega) (by omega) (by omega)];omega
theorem jj.neg{w k:Nat}{F:Nat->aJ}{r:Nat}(hr:r<k):jj w k (put F r (fun j=>-(F r j))) F:=by
 have hp:∀i,i≠r->put F r (fun j=>-(F r j)) i=F i:=fun i hi=>by unfold put;rw[if_neg hi]
 have hq:put F r (fun j=>-(F r j)) r=fun j=>-(F r j):=by unfold put;rw[if_pos rfl]
 refine⟨fun i hi=>?_,fun i hi=>?_,-1,.inr rfl,fun d J I=>?_⟩
 ·by_cases e:i=r
  ·subst e;rw[hq]
   exact((Sp.row F hr).comb (-1) 0 (Sp.row F hr)).congr (fun j _=>by omega)
  ·rw[hp i e];exact Sp.row F hi
 ·by_cases e:i=r
  ·subst e
   have h1:=Sp.row (w:=w) (put F i (fun j=>-(F i j))) hr;rw[hq]at h1;exact(h1.comb (-1) 0 h1).congr (fun j _=>by omega)
  ·have:=Sp.row (w:=w) (put F r (fun j=>-(F r j))) hi
   rw[hp i e]at this;exact this
 ·rw[dQ k (fun y hy i _=>Ge hr _ y hy i)]
  have:=Fr (m:=d) (n:=k) (W:=rv k F J) (i:=k-1-r) (by omega) I;have e1:(fun i=>-(rv k F J (k-1-r) i))=fun i=>-(F r (J i)):=by
   funext i;unfold rv;rw[show k-1-(k-1-r)=r by omega]
  rw[e1]at this;rw[this];omega
theorem jj.of_eq{w k:Nat}{F G:Nat->aJ}(e:∀i,i<k->F i=G i):jj w k F G:=by
 refine⟨fun i hi=>by rw[e i hi];exact Sp.row G hi,fun i hi=>by rw[<-e i hi];exact Sp.row F hi,1,.inl rfl,fun d J I=>?_⟩;rw[dQ k (V:=rv k G J) (fun y hy i _=>by unfold rv;rw[e _ (by omega)]),Int.one_mul]
def Gh(v:aJ)(W:Nat->aJ):Nat->aJ:=fun y=>match y with|0=>v|y+1=>W y
theorem zl:∀k:Nat,∃t:Int,∀(d:Nat) (v:aJ) (W:Nat->aJ),aX d (Gh v W) (k+1)=fun I=>t*aO d v (aX d W k) I
 |0=>⟨1,fun d v W=>by funext I;show aO d v AV I=1*aO d v AV I;omega⟩
 |k+1=>by
  obtain⟨t,h⟩:=zl k;refine⟨-t,fun d v W=>?_⟩
  funext I
  show aO d (W k) (aX d (Gh v W) (k+1)) I=-t*aO d v (aO d (W k) (aX d W k)) I;rw[h d v W];have:=gO d (W k) t 0 (aO d v (aX d W k)) (fun _=>0) I;have e:(fun J=>t*aO d v (aX d W k) J+0*(fun _=>(0:Int)) J)=fun J=>t*aO d v (aX d W k) J:=by funext J;omega
  rw[e]at this;rw[this,tZ,Int.neg_mul,Int.mul_neg];omega
theorem Sp.more{w k:Nat}{F:Nat->aJ}{v u:aJ}(h:Sp w k F v):Sp w (k+1) (put F k u) v:=by
 obtain⟨y,hy⟩:=h;refine⟨fun i=>if i=k then 0 else y i,fun j hj=>?_⟩;show v j=aK (fun i=>(if i=k then 0 else y i)*put F k u i j) k+(if k=k then 0 else y k)*put F k u k j;have e:aK (fun i=>(if i=k then 0 else y i)*put F k u i j) k=aK (fun i=>y i*F i j) k:=aG k (fun i hi=>by
  show(if i=k then 0 else y i)*(if i=k then u else F i) j=y i*F i j;rw[if_neg (by omega),if_neg (by omega)])
 rw[if_pos rfl,hy j hj,e];omega
theorem jj.more{w k:Nat}{F F0:Nat->aJ}(h:jj w k F F0)(v:aJ):jj w (k+1) (put F k v) (put F0 k v):=by
 have hp:∀(F:Nat->aJ) i,i≠k->put F k v i=F i:=fun F i hi=>by unfold put;rw[if_neg hi]
 have hq:∀(F:Nat->aJ),put F k v k=v:=fun F=>by unfold put;rw[if_pos rfl]
 have hr:∀(F:Nat->aJ) J y,y<k+1->∀i,rv (k+1) (put F k v) J y i=Gh (fun i=>v (J i)) (rv k F J) y i:=fun F J y hy i=>by
  cases y with
  |zero=>unfold rv;rw[show k+1-1-0=k by omega,hq];rfl
  |succ y=>unfold rv;rw[hp F _ (by omega),show k+1-1-(y+1)=k-1-y by omega];rfl
 obtain⟨s,hs,e⟩:=h.sgn;obtain⟨t,ht⟩:=zl k;refine⟨fun i hi=>?_,fun i hi=>?_,s,hs,fun d J I=>?_⟩
 ·by_cases c:i=k
  ·subst c
   have:=Sp.row (w:=w) (put F0 i v) (show i<i+1 by omega);rw[hq]at this;rw[hq];exact this
  ·rw[hp F i c];exact(h.le i (by omega)).more
 ·by_cases c:i=k
  ·subst c
   have:=Sp.row (w:=w) (put F i v) (show i<i+1 by omega);rw[hq]at this;rw[hq];exact this
  ·rw[hp F0 i c];exact(h.ge i (by omega)).more
 ·rw[dQ (k+1) (fun y hy i _=>hr F J y hy i),dQ (k+1) (fun y hy i _=>hr F0 J y hy i),ht,ht]
  have e1:aX d (rv k F J) k=fun I=>s*aX d (rv k F0 J) k I:=by funext I;exact e d J I
  rw[e1];have:=gO d (fun i=>v (J i)) s 0 (aX d (rv k F0 J) k) (fun _=>0) I;have e2:(fun K=>s*aX d (rv k F0 J) k K+0*(fun _=>(0:Int)) K)=fun K=>s*aX d (rv k F0 J) k K:=by funext K;omega
  rw[e2]at this;show t*aO d (fun i=>v (J i)) (fun I=>s*aX d (rv k F0 J) k I) I=s*(t*aO d (fun i=>v (J i)) (aX d (rv k F0 J) k) I);rw[this,Int.zero_mul,Int.add_zero,<-Int.mul_assoc,<-Int.mul_assoc,Int.mul_comm t s]
def d7(f:Nat->Int):Nat->Int
 |0=>1
 |k+1=>d7 f k*f k
theorem Cm{m:Nat}{W:Nat->aJ}:∀k,k<=m->(∀y,y<k->∀i,y<i->i<m->W y i=0)->aX k W k (top k)=d7 (fun y=>W y y) k
 |0,_,_=>rfl
 |k+1,hk,h=>by
  obtain⟨h1,h2⟩:=tK (m:=k) (W:=W) k (fun j hj=>h j (by omega) k hj (by omega));have e2:(fun J=>aX (k+1) W k (true :: J))=fun _=>0:=funext h2
  show W k k*aX (k+1) W k (false :: top k)-aO k (W k) (fun J=>aX (k+1) W k (true :: J)) (top k)=d7 (fun y=>W y y) k*W k k;rw[e2,gD,h1,Cm k (by omega) (fun y hy i h3 h4=>h y (by omega) i h3 h4)];rw[Int.mul_comm];omega
theorem tI{m:Nat}{W:Nat->aJ}:∀(k:Nat) (I:List Bool),aX (m+1) W k (false :: I)=aX m W k I
 |0,I=>rfl
 |k+1,I=>by
  have e:(fun J=>aX (m+1) W k (false :: J))=aX m W k:=funext (tI k);show aO m (W k) (fun J=>aX (m+1) W k (false :: J)) I=aO m (W k) (aX m W k) I;rw[e]
theorem nN{f g:Nat->Int}:∀k,(∀i,i<k->f i=g i)->d7 f k=d7 g k
 |0,_=>rfl
 |k+1,h=>by show d7 f k*f k=d7 g k*g k;rw[nN k (fun i hi=>h i (by omega)),h k (by omega)]
theorem rk{f:Nat->Int}:∀k,(∀i,i<k->0<f i)->0<d7 f k
 |0,_=>by show(0:Int)<1;omega
 |k+1,h=>Int.mul_pos (rk k (fun i hi=>h i (by omega))) (h k (by omega))
theorem Av{f:Nat->Int}:∀k,(∀i,i<k->0<f i)->∀i,i<k->f i<=d7 f k
 |0,_,i,hi=>by omega
 |k+1,h,i,hi=>by
  have p1:=rk k (fun i hi=>h i (by omega));have p2:=h k (by omega);show f i<=d7 f k*f k;by_cases e:i=k
  ·subst e
   have:=Int.mul_le_mul_of_nonneg_right (show(1:Int)<=d7 f i by omega) (Int.le_of_lt p2);omega
  ·have h1:=Av k (fun i hi=>h i (by omega)) i (by omega)
   have:=Int.mul_le_mul_of_nonneg_left (show(1:Int)<=f k by omega) (Int.le_of_lt p1);omega
theorem D3(f:Nat->Int):∀k,d7 (fun i=>f (k-1-i)) k=d7 f k:=by
 have shift:∀k (g:Nat->Int),d7 g (k+1)=g 0*d7 (fun i=>g (i+1)) k:=fun k=>by
  induction k with
  |zero=>intro g;show 1*g 0=g 0*1;omega
  |succ k ih=>intro g;show d7 g (k+1)*g (k+1)=g 0*(d7 (fun i=>g (i+1)) k*g (k+1));rw[ih,Int.mul_assoc]
 intro k
 induction k with
 |zero=>rfl
 |succ k ih=>
  rw[shift];show f (k+1-1-0)*d7 (fun i=>f (k+1-1-(i+1))) k=d7 f k*f k;rw[nN k (g:=fun i=>f (k-1-i)) (fun i hi=>by rw[show k+1-1-(i+1)=k-1-i by omega]),ih,Int.mul_comm];rfl
def jT(w k:Nat)(F:Nat->aJ)(j:Nat):Nat->Nat:=fun i=>if i<k then aj w (F (k-1-i))else j
theorem Cb{w k:Nat}{F:Nat->aJ}(h:mH w k F)(j:Nat):aX k (rv k F (jT w k F j)) k (top k)=d7 (fun i=>F i (aj w (F i))) k:=by
 rw[Cm (m:=k) k (Nat.le_refl _) (fun y hy i h1 h2=>?_),<-D3 (fun i=>F i (aj w (F i)))]
 ·refine nN k (fun i hi=>?_)
  show F (k-1-i) (jT w k F j i)=F (k-1-i) (aj w (F (k-1-i)));unfold jT;rw[if_pos hi]
 ·unfold rv jT
  rw[if_pos h2];exact aW (h.inc _ _ (by omega) (by omega))
theorem Jk{k M:Nat}{F0:Nat->aJ}{w:Nat}(hM:∀i,i<k->∀j,(F0 i j).natAbs<=M)(J:Nat->Nat):∀y,y<k->∀i,(rv k F0 J y i).natAbs<=M:=fun y hy i=>hM _ (by omega) _
theorem jj.leads{w k M:Nat}{F F0:Nat->aJ}(h:mH w k F)(l:jj w k F F0)(hM:∀i,i<k->∀j,(F0 i j).natAbs<=M):d7 (fun i=>F i (aj w (F i))) k<=(pI k k*M ^ k:Nat):=by
 have h1:=l.abs k (jT w k F 0) (top k);rw[Cb h]at h1;have h2:=uy (m:=k) (W:=rv k F0 (jT w k F 0)) (M:=M) k (fun y hy i _=>Jk (w:=w) hM _ y hy i) (top k);rw[yu,<-h1]at h2;omega
theorem FT{v:aJ}{f:Nat->Int}{D:Nat}:∀m,(∀i,i<m->(v i).natAbs<=D)->vn m v<=m*D
 |0,_=>by show 0<=_;omega
 |m+1,h=>by
  have:=FT (v:=v) (f:=f) (D:=D) m (fun i hi=>h i (by omega));have:=h m (by omega);show vn m v+(v m).natAbs<=(m+1)*D;rw[Nat.add_mul];omega
theorem jj.bound{w k M:Nat}{F F0:Nat->aJ}(h:mH w k F)(l:jj w k F F0)(hM:∀i,i<k->∀j,(F0 i j).natAbs<=M){r:Nat}(hr:r<k)(hb:∀i,i<k->(F r (aj w (F i))).natAbs<=(F i (aj w (F i))).natAbs)(j:Nat):(F r j).natAbs<=k*(pI k k*M ^ k):=by
 have hD:0<d7 (fun i=>F i (aj w (F i))) k:=rk k h.pos;obtain⟨D,eD⟩:∃D:Nat,d7 (fun i=>F i (aj w (F i))) k=D:=⟨(d7 (fun i=>F i (aj w (F i))) k).toNat,by omega⟩;have h0:aO (k+1) (rv k F (jT w k F j) (k-1-r)) (aX (k+1) (rv k F (jT w k F j)) k) (true :: top k)=0:=by
  have:=tu (m:=k+1) (W:=rv k F (jT w k F j)) (k:=k-1-r) r (true :: top k);rw[show k-1-r+1+r=k by omega]at this;exact this
 have h1:rv k F (jT w k F j) (k-1-r) k*aX (k+1) (rv k F (jT w k F j)) k (false :: top k)-aO k (rv k F (jT w k F j) (k-1-r)) (fun J=>aX (k+1) (rv k F (jT w k F j)) k (true :: J)) (top k)=0:=h0;rw[tI,Cb h,eD]at h1;have e1:rv k F (jT w k F j) (k-1-r) k=F r j:=by unfold rv jT;rw[if_neg (by omega),show k-1-(k-1-r)=r by omega]
 rw[e1]at h1;have h2:=tn k (rv k F (jT w k F j) (k-1-r)) (fun J=>aX (k+1) (rv k F (jT w k F j)) k (true :: J)) (top k) (pI k k*M ^ k) (fun J hJ=>by
  rw[l.abs];have:=uy (m:=k+1) (W:=rv k F0 (jT w k F j)) (M:=M) k (fun y hy i _=>Jk (w:=w) hM _ y hy i) (true :: J);rw[show cnt (true :: J)=k by rw[<-yu k,<-hJ];rfl]at this;exact this)
 have h3:vn k (rv k F (jT w k F j) (k-1-r))<=k*D:=FT (f:=fun _=>0) k (fun i hi=>by
  unfold rv jT;rw[if_pos hi,show k-1-(k-1-r)=r by omega];have q1:=hb (k-1-i) (by omega);have q2:=Av k h.pos (k-1-i) (by omega);have q3:=h.pos (k-1-i) (by omega);rw[eD]at q2;omega)
 generalize aO k (rv k F (jT w k F j) (k-1-r)) (fun J=>aX (k+1) (rv k F (jT w k F j)) k (true :: J)) (top k)=W at h1 h2;have h4:(F r j).natAbs*D=W.natAbs:=by rw[show W=F r j*D by omega,Int.natAbs_mul];rfl
 have h5:(F r j).natAbs*D<=k*(pI k k*M ^ k)*D:=by
  rw[h4];refine Nat.le_trans h2 (Nat.le_trans (Nat.mul_le_mul_right _ h3) ?_);rw[Nat.mul_assoc,Nat.mul_comm D,<-Nat.mul_assoc];exact Nat.le_refl _
 exact Nat.le_of_mul_le_mul_right h5 (by omega)
theorem jj.ne{w k d:Nat}{F F0:Nat->aJ}(l:jj w k F F0){J:Nat->Nat}{I:List Bool}(hJ:∀i,i<d->J i<w)(h:aX d (rv k F0 J) k I≠0){r:Nat}(hr:r<k):aj w (F r)<w:=by
 rcases Nat.lt_or_ge (aj w (F r)) w with c|c
 ·exact c
 ·exfalso
  have h1:=l.abs d J I;rw[Er (W:=rv k F J) (i:=k-1-r) (by omega) (fun i hi=>by
   unfold rv;rw[show k-1-(k-1-r)=r by omega];exact aW (w:=w) (by have:=hJ i hi;omega))]at h1
  omega
end Go.Proofs.Ytdpbiegfljmhmaa.Ext
namespace Go.Proofs.Ytdpbiegfljmhmaa
open Go.Sim
set_option maxRecDepth 100000
variable{F:aM}{call b0 d0 g0 m0 n0 o0 t0 neg u0 v0 w0 x0 z0 a1 nz b1 rd wr push next d1 f1 g1 l1 t1 u1 v1 a2 b2 d2 app f2 putAt fresh lowered bump g2 addN lt ne i2 l2 n2 yn t2 u2 v2 x2 y2 a3:_}(hA:AP F ⟨call,b0,d0,g0,m0,n0,o0,t0,neg,u0,v0,w0,x0,z0,a1,nz,b1,rd,wr,push,next,d1,f1,g1,l1,t1,u1,v1,a2,b2,d2,app,f2,putAt,fresh,lowered,bump,g2,addN,lt,ne,i2,l2,n2,yn,t2,u2,v2,x2,y2,a3⟩)
include hA
theorem J7{h:af}(hlow:h.low<=h.next){n:Int}{Q:Value->af->Prop}(hQ:Q (.agg #[.int .i64 n,.int .i64 1]) h):call 35 [.int .i64 n] h Q:=by
 refine hA.bodyR Try.func35 r35_ok (hA.alike _ _ _ rfl) hlow (zc ?_);exact hQ
theorem Dc{t e es:Nat}(hT:dB Try.prog t e es){α:Type}{enc:α->List Value}(he:∀x,(enc x).length=es)(hp0:0<es)(hok:∀x,(enc x).all aA=true){h:af}{a:Option Addr}{n c:Nat}{l:List α}{v:α}(hp:jw h es a n c (l.flatMap enc))(hn:n<=100000){C:Option Addr->Nat->Nat->af->Prop}
  (hC:∀a' c' h',jw h' es a' (n+1) c' ((l++[v]).flatMap enc)->(∀h0,Ext h0 h->gf h0.next a->Ext h0 h'/\gf h0.next a')->C a' (n+1) c' h') :
  app [t,t] [.slice a n c,.slice (some ⟨next h,0,none⟩) 1 1] (push h es (enc v)) C:=by
 rw[oI hA,cM hA,bV hA];have hs:cD (h.push es (enc v)) (some ⟨h.next,0,none⟩) 1 es (enc v):=⟨rfl,by simp[af.push],by rw[(bG.push h es _).readG (by rw[he];omega),List.drop_zero,List.take_of_length_le (by rw[he];omega)]⟩;have hall:(l.flatMap enc).all aA=true:=by
  rw[List.all_flatMap];simp only[hok,List.all_eq_true,implies_true]
 obtain⟨a',c',h',h1,h2,h3⟩:=wG hT hT.und (c2:=1) (hp.ext (.push h es (enc v))) hs hall (hok v) (by omega) (by omega);refine⟨a',n+1,c',h',h1,hC a' c' h' (by simpa using h2) (fun h0 e0 f0=>h3 h0 (e0.trans (.push _ _ _)) f0)⟩
theorem C2{t e es:Nat}(hT:dB Try.prog t e es){α:Type}{enc:α->List Value}(he:∀x,(enc x).length=es)(hp0:0<es)(hok:∀x,(enc x).all aA=true){h0 h h9:af}(hlow:h0.low<=h0.next)(e0:Ext h0 h){N k:Nat}(hk:k<N)(hh9:h9=bump h N)
  {a:Option Addr} {n c:Nat} {l:List α} {v:α} (hp:jw h es a n c (l.flatMap enc)) (hf:gf h0.next a) (hn:n<=100000) {C:Option Addr->Nat->Nat->af->Prop}
  (hC:∀a' c' h',jw (lowered (putAt h9 (addN (next h) k) es (enc v)) h') es a' (n+1) c' ((l++[v]).flatMap enc)->gf h0.next a'->Ext h0 (lowered (putAt h9 (addN (next h) k) es (enc v)) h')->C a' (n+1) c' h') :
  app [t,t] [.slice a n c,.slice (some ⟨addN (next h) k,0,none⟩) 1 1] (fresh (putAt h9 (addN (next h) k) es (enc v))) C:=by
 rw[iY hA]at hh9;subst hh9;rw[cB hA,bV hA,De hA]at hC ⊢;rw[fM hA];have x1:Ext h ((h.bump N).putAt (h.next+k) es (enc v)):=yU h N (by omega) es _;have o1:=bG.putAt (h.bump N) (h.next+k) es (enc v);have n1:((h.bump N).putAt (h.next+k) es (enc v)).next=h.next+N:=rfl;generalize (h.bump N).putAt (h.next+k) es (enc v)=X at *;have xf:=x1.trans (Ext.freshed X);have o2:bG X.freshed (h.next+k) es (enc v):=o1.ext (Ext.freshed X) (by omega);have hs:cD X.freshed (some ⟨h.next+k,0,none⟩) 1 es (enc v):=⟨rfl,by show h.next+k<X.next;omega,by rw[o2.readG (by rw[he];omega),List.drop_zero,List.take_of_length_le (by rw[he];omega)]⟩;obtain⟨a',c',h',h1,h2,h3⟩:=wG hT hT.und (c2:=1) (hp.ext xf) hs (jP hok l) (hok v) (by omega) (by omega);obtain⟨w1,w2⟩:=h3 h0 (e0.trans xf) hf;rw[oI hA];refine⟨a',n+1,c',h',h1,hC a' c' h' ?_ w2 ?_⟩
 ·rw[cT hA]
  refine jw.of_get (h:=h') (by simpa using h2) (Nat.le_refl _) (fun ad had hb=>rfl)
 ·rw[cT hA]
  exact Ext.lower' w1 (e0.trans x1) hlow
theorem sN{t e es:Nat}(hT:dB Try.prog t e es){α:Type}{enc:α->List Value}(he:∀x,(enc x).length=es)(hp0:0<es)(hok:∀x,(enc x).all aA=true){h:af}{a:Option Addr}{n c:Nat}{l:List α}{v:α}(hp:jw h es a n c (l.flatMap enc))(hn:n<=100000){C:Option Addr->Nat->Nat->af->Prop}
  (hC:∀b' h',jw h' es (some ⟨b',0,none⟩) (n+1) (ar es (n+1)) ((l++[v]).flatMap enc)->(∀h0,Ext h0 h->gf h0.next a->Ext h0 h')->h.next<h'.next->h.next<b'->(∀i,i<h.next->(∀ad,a=some ad->ad.block≠i)->h'.m.get i=h.m.get i)->C (some ⟨b',0,none⟩) (n+1) (ar es (n+1)) h') :
  app [t,t] [.slice a n c,.slice (some ⟨next h,0,none⟩) 1 1] (push h es (enc v)) C:=by
 rw[oI hA,cM hA,bV hA];have hs:cD (h.push es (enc v)) (some ⟨h.next,0,none⟩) 1 es (enc v):=⟨rfl,by simp[af.push],by rw[(bG.push h es _).readG (by rw[he];omega),List.drop_zero,List.take_of_length_le (by rw[he];omega)]⟩;obtain⟨a',c',h',h1,h2,h3,h4,h5,h6⟩:=nl hT hT.und (c2:=1) (hp.ext (.push h es (enc v))) hs (jP hok l) (hok v) (by omega) (by omega);rcases h2 with ⟨_,w,_⟩|⟨b',rfl,rfl,w1,w2,w3⟩
 ·omega
 have nx:(h.push es (enc v)).next=h.next+1:=rfl;refine⟨_,n+1,_,h',h1,hC b' h' (.inr ⟨b',rfl,rfl,w1,by rw[cQ he];simp only[List.length_append,List.length_cons,List.length_nil];have:=hp.cells.length;rw[cQ he]at this;rw[Nat.eq_of_mul_eq_mul_right hp0 this],?_⟩) (fun h0 e0 f0=>(h3 h0 (e0.trans (.push _ _ _)) f0).1) (by omega) (by have:=h5 _ rfl;simp only at this;omega) (fun i hi ha=>?_)⟩
 ·simpa using w3
 ·rw[h6 i (by omega) ha]
  exact(Ext.push h es (enc v)).get i hi
