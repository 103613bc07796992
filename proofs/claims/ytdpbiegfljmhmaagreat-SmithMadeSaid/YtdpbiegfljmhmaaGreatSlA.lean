import Derived.Test.YtdpbiegfljmhmaaGreatSymI
import Derived.Test.YtdpbiegfljmhmaaGreatFracR
import Derived.Test.YtdpbiegfljmhmaaGreatFracA
import Derived.Test.YtdpbiegfljmhmaaGreatSymBits
set_option linter.unusedSimpArgs false
set_option linter.unusedVariables false
namespace Go.Proofs.YtdpbiegfljmhmaaGreat
open Go.cS
def gt{α:Type}[Inhabited α](l:List α)(i:Int):α:=l.getD i.toNat default
structure Rows{α:Type}(enc:α->List Value)(es:Nat)(h:af)(a:Option Addr)(n:Nat)(l:List α):Prop where
 cells:Cells h a n es (l.flatMap enc)
 each:∀x,(enc x).length=es
 pos:0<es
theorem gi{α:Type}{enc:α->List Value}{es:Nat}(he:∀x,(enc x).length=es)(l:List α):(l.flatMap enc).length=l.length*es:=by
 induction l with
 |nil=>simp
 |cons c l ih=>rw[List.flatMap_cons,List.length_append,he,ih,List.length_cons,Nat.add_mul];omega
theorem Gu{α:Type}[Inhabited α]{enc:α->List Value}{es:Nat}(he:∀x,(enc x).length=es)(l:List α)(i:Nat)(hi:i<l.length)(k m:Nat)(hk:k+m<=es):((l.flatMap enc).drop (i*es+k)).take m=((enc (l.getD i default)).drop k).take m:=by
 induction l generalizing i with
 |nil=>simp at hi
 |cons c l ih=>
  cases i with
  |zero=>
   rw[List.flatMap_cons,Nat.zero_mul,Nat.zero_add,List.drop_append_of_le_length (by rw[he];omega),List.take_append_of_le_length (by rw[List.length_drop,he];omega)];rfl
  |succ i=>
   have e:((c :: l).flatMap enc).drop ((i+1)*es+k)=(l.flatMap enc).drop (i*es+k):=by
    rw[List.flatMap_cons,show(i+1)*es+k=(enc c).length+(i*es+k) by rw[he,Nat.add_mul];omega,List.drop_append,List.drop_eq_nil_of_le om,Nat.add_sub_cancel_left,List.nil_append]
   rw[e];exact ih i (by simpa using hi)
theorem Rows.ext{α:Type}{enc:α->List Value}{es:Nat}{h h':af}{a:Option Addr}{n:Nat}{l:List α}(p:Rows enc es h a n l)(e:Ext h h'):Rows enc es h' a n l:=⟨p.cells.ext e,p.each,p.pos⟩
theorem Rows.len{α:Type}{enc:α->List Value}{es:Nat}{h:af}{a:Option Addr}{n:Nat}{l:List α}(p:Rows enc es h a n l):l.length=n:=by
 have h1:=p.cells.length;rw[gi p.each]at h1;exact Nat.eq_of_mul_eq_mul_right p.pos h1
theorem Rows.at{α:Type}[Inhabited α]{enc:α->List Value}{es:Nat}{h:af}{a:Option Addr}{n:Nat}{l:List α}(p:Rows enc es h a n l){i:Int}(h0:0<=i)(hi:i<n) :
  ∃b o,a=some ⟨b,o,none⟩/\b<h.next/\∀k m,k+m<=es->0<m->h.aM ⟨b,o+i.toNat*es+k,none⟩ m=some (((enc (gt l i)).drop k).take m):=by
 have hl:=p.len;have hm:∀k m,k+m<=es->i.toNat*es+k+m<=n*es:=fun k m hk=>by
  have:(i.toNat+1)*es<=n*es:=Nat.mul_le_mul_right _ om;rw[Nat.add_mul]at this;omega
 obtain⟨b,o,h1,h2,_⟩:=p.cells.at (i:=i.toNat*es+0) (m:=es) (hm 0 es om) p.pos;refine⟨b,o,h1,h2,fun k m hk hp=>?_⟩;obtain⟨b',o',sI,_,h3'⟩:=p.cells.at (i:=i.toNat*es+k) (m:=m) (hm k m hk) hp;rw[h1]at sI;cases sI;rw[Nat.add_assoc,h3',Gu p.each l i.toNat om k m hk];rfl
theorem bW.rows{α:Type}{enc:α->List Value}{es:Nat}{h:af}{b:Nat}{l:List α}(c:bW h b es (l.flatMap enc))(he:∀x,(enc x).length=es)(hp:0<es)(hb:b<h.next):Rows enc es h (some ⟨b,0,none⟩) l.length l:=by
 refine⟨⟨rfl,hb,?_⟩,he,hp⟩;have:=c.aM (o:=0) (n:=l.length*es) (by rw[gi he];omega);rw[this,List.drop_zero,List.take_of_length_le (by rw[gi he];omega)]
theorem Rows.nil{α:Type}{enc:α->List Value}{es:Nat}(h:af)(he:∀x,(enc x).length=es)(hp:0<es):Rows enc es h none 0 []:=⟨⟨rfl,rfl⟩,he,hp⟩
theorem bW.setRow{α:Type}[Inhabited α]{enc:α->List Value}{es:Nat}{h:af}{b:Nat}{l:List α}(c:bW h b es (l.flatMap enc))(he:∀x,(enc x).length=es){i:Nat}(hi:i<l.length)(x:α):∃h',h.write b (i*es) (enc x)=some h'/\bW h' b es ((l.set i x).flatMap enc)/\j7 h h' b:=by
 have hle:(i+1)*es<=l.length*es:=Nat.mul_le_mul_right _ om;rw[Nat.add_mul]at hle;obtain⟨h',w1,w2,w3⟩:=c.write (o:=i*es) (vs:=enc x) (by rw[gi he,he];omega);refine⟨h',w1,?_,w3⟩;have e:∀(l:List α) (i:Nat),i<l.length->(l.flatMap enc).take (i*es)++(enc x++(l.flatMap enc).drop (i*es+(enc x).length))=(l.set i x).flatMap enc:=by
  intro l
  induction l with
  |nil=>intro i hi;simp at hi
  |cons c l ih=>
   intro i hi;cases i with
   |zero=>
    rw[List.set_cons_zero,List.flatMap_cons,List.flatMap_cons,Nat.zero_mul,Nat.zero_add,List.take_zero,List.nil_append,he,<-he c,List.drop_left]
   |succ i=>
    rw[List.set_cons_succ,List.flatMap_cons,List.flatMap_cons,show(i+1)*es=(enc c).length+i*es by rw[he,Nat.add_mul];omega,List.take_length_add_append,Nat.add_assoc,List.drop_length_add_append,List.append_assoc];rw[ih i (by simpa using hi)]
 rw[<-e l i hi];exact w2
set_option maxRecDepth 100000
def rq(n d:Int):Rat:=(n:Rat) / (d:Rat)
theorem okF.is{n d:Int}(h:okF n d):gA n d (rq n d):=by
 obtain⟨q,hq⟩:=h;have:=hq.val;unfold rq;rw[<-this];exact hq
theorem gA.rq{n d:Int}{q:Rat}(h:gA n d q):rq n d=q:=h.val.symm
theorem gA.ok{n d:Int}{q:Rat}(h:gA n d q):okF n d:=⟨q,h⟩
theorem qK{n:Int}(h0:-1000000000000000000<=n)(h1:n<=1000000000000000000):gA n 1 (n:Rat):=⟨(Rat.num_intCast n).symm,by rw[Rat.den_intCast];rfl,by rw[Rat.num_intCast];exact h0,by rw[Rat.num_intCast];exact h1,by rw[Rat.den_intCast];decide⟩
theorem qL{f:Rat->Rat->Rat}{n d m e a b r:Int}{p q:Rat}(hp:gA n d p)(hq:gA m e q)(hf:fits (f p q))(k:DV f n d m e a b r):gA a b (f p q)/\r=0:=by
 rcases k with ⟨w,_⟩|⟨p',q',vt,yX,k⟩
 ·exact absurd ⟨⟨p,hp⟩,⟨q,hq⟩⟩ w
 ·obtain rfl:=hp.uniq vt
  obtain rfl:=hq.uniq yX;rcases k with ⟨_,rfl,rfl,rfl⟩|⟨w,_⟩
  ·exact⟨⟨rfl,rfl,hf⟩,rfl⟩
  ·exact absurd hf w
theorem ZN{α β:Type}[Inhabited α][Inhabited β](f:α->β)(l:List α){i:Int}(h0:0<=i)(h1:i<l.length):gt (l.map f) i=f (gt l i):=by
 unfold gt;rw[List.getD,List.getD,List.getElem?_map,List.getElem?_eq_getElem om];rfl
theorem B3{α:Type}[Inhabited α](l:List α){i j:Int}(hi:0<=i)(hj:0<=j)(hl:i<l.length)(x:α):gt (l.set i.toNat x) j=if j=i then x else gt l j:=by
 unfold gt;rw[List.getD_eq_getElem?_getD,List.getD_eq_getElem?_getD,List.getElem?_set];by_cases e:j=i
 ·subst e;rw[if_pos rfl,if_pos om,if_pos rfl];rfl
 ·rw[if_neg om,if_neg e]
theorem BH{α:Type}[Inhabited α](l:List α){i:Int}(h0:0<=i)(h1:i<l.length):gt l i∈l:=by
 have h2:i.toNat<l.length:=om
 unfold gt;rw[List.getD_eq_getElem?_getD,List.getElem?_eq_getElem h2];exact List.getElem_mem ..
structure J6{α:Type}(le:α->α->Prop):Prop where
 refl:∀x,le x x
 trans:∀x y z,le x y->le y z->le x z
 total:∀x y,le x y\/le y x
theorem J6.S8{α:Type}{le:α->α->Prop}(h:J6 le){x y:α}(w:¬le x y):le y x:=(h.total x y).resolve_left w
section
variable{α:Type}[Inhabited α]
def dB(L:List α)(i j:Int):List α:=(L.set i.toNat (gt L j)).set j.toNat (gt L i)
theorem M5(L:List α)(i j:Int):(dB L i j).length=L.length:=by unfold dB;rw[List.length_set,List.length_set]
theorem jw(L:List α){i j k:Int}(i0:0<=i)(i1:i<L.length)(j0:0<=j)(j1:j<L.length)(k0:0<=k):gt (dB L i j) k=if k=j then gt L i else if k=i then gt L j else gt L k:=by
 unfold dB;rw[B3 _ j0 k0 (by rw[List.length_set];exact j1),B3 _ i0 k0 i1]
theorem count_set(L:List α)(p:α->Bool){i:Int}(i0:0<=i)(i1:i<L.length)(x:α):(L.set i.toNat x).countP p+(if p (gt L i)=true then 1 else 0)=L.countP p+if p x=true then 1 else 0:=by
 have h2:i.toNat<L.length:=om
 have e:gt L i=L[i.toNat]:=by
  unfold gt;rw[List.getD_eq_getElem?_getD,List.getElem?_eq_getElem h2];rfl
 rw[e,List.countP_set h2];by_cases c:p L[i.toNat]=true
 ·have:0<L.countP p:=List.countP_pos_iff.2 ⟨_,List.getElem_mem h2,c⟩
  by_cases d:p x=true<;>simp[c,d]<;>omega
 ·by_cases d:p x=true<;>simp[c,d]
theorem Gv(L:List α)(p:α->Bool){i j:Int}(i0:0<=i)(i1:i<L.length)(j0:0<=j)(j1:j<L.length):(dB L i j).countP p=L.countP p:=by
 unfold dB;have h1:=count_set L p i0 i1 (gt L j);have h2:=count_set (L.set i.toNat (gt L j)) p (i:=j) j0 (by rw[List.length_set];exact j1) (gt L i);rw[B3 L i0 j0 i1]at h2;by_cases e:j=i
 ·subst e
  rw[if_pos rfl]at h2;omega
 ·rw[if_neg e]at h2
  omega
structure aJ(a b:Int)(L L':List α):Prop where
 len:L'.length=L.length
 out:∀j:Int,0<=j->(j<a\/b<=j)->gt L' j=gt L j
 all:∀P:α->Prop,(∀j:Int,a<=j->j<b->P (gt L j))->∀j:Int,a<=j->j<b->P (gt L' j)
 si:∀p:α->Bool,L'.countP p=L.countP p
theorem aJ.refl(a b:Int)(L:List α):aJ a b L L:=⟨rfl,fun _ _ _=>rfl,fun _ h=>h,fun _=>rfl⟩
theorem aJ.trans{a b:Int}{L M N:List α}(h:aJ a b L M)(k:aJ a b M N):aJ a b L N:=
 ⟨k.len.trans h.len,fun j j0 q=>(k.out j j0 q).trans (h.out j j0 q),fun P w=>k.all P (h.all P w),fun p=>(k.si p).trans (h.si p)⟩
theorem aJ.wide{a b a' b':Int}{L M:List α}(h:aJ a' b' L M)(a0:0<=a)(ha:a<=a')(hb:b'<=b):aJ a b L M:=by
 refine⟨h.len,fun j j0 q=>h.out j j0 om,fun P w j ja jb=>?_,h.si⟩;by_cases c:a'<=j/\j<b'
 ·exact h.all P (fun k k0 k1=>w k om om) j c.1 c.2
 ·rw[h.out j om om]
  exact w j ja jb
theorem aJ.swap{a b:Int}(L:List α){i j:Int}(a0:0<=a)(hb:b<=L.length)(i0:a<=i)(i1:i<b)(j0:a<=j)(j1:j<b):aJ a b L (dB L i j):=by
 refine⟨M5 L i j,fun k k0 q=>?_,fun P w k k0 k1=>?_,fun p=>Gv L p om om om om⟩
 ·rw[jw L om om om om k0,if_neg om,if_neg om]
 ·rw[jw L om om om om om]
  split
  ·exact w i i0 i1
  ·split
   ·exact w j j0 j1
   ·exact w k k0 k1
variable{le:α->α->Prop}
def aH(le:α->α->Prop)(L:List α)(a b:Int):Prop:=∀p q:Int,a<=p->p<q->q<b->le (gt L p) (gt L q)
def oE(le:α->α->Prop)(L:List α)(a b j:Int):Prop:=∀p q:Int,a<=p->p<q->q<=b->q≠j->le (gt L p) (gt L q)
theorem oE.start{L:List α}{a i:Int}(h:aH le L a i):oE le L a i i:=fun p q p0 pq q1 qj=>h p q p0 pq om
theorem oE.first{L:List α}{a i:Int}(h:oE le L a i a):aH le L a (i+1):=fun p q p0 pq q1=>h p q p0 pq om om
theorem oE.stop(hp:J6 le){L:List α}{a i j:Int}(h:oE le L a i j)(ja:a<j)(w:le (gt L (j-1)) (gt L j)):aH le L a (i+1):=by
 intro p q p0 pq q1;by_cases e:q=j
 ·subst e
  by_cases e2:p=q-1
  ·rw[e2];exact w
  ·exact hp.trans _ _ _ (h p (q-1) p0 om om om) w
 ·exact h p q p0 pq om e
theorem oE.step(hp:J6 le){L:List α}{a i j:Int}(a0:0<=a)(hl:i<L.length)(h:oE le L a i j)(ja:a<j)(ji:j<=i)(w:¬le (gt L (j-1)) (gt L j)):oE le (dB L j (j-1)) a i (j-1):=by
 have w':=hp.S8 w;have g:∀k:Int,0<=k->gt (dB L j (j-1)) k=if k=j-1 then gt L j else if k=j then gt L (j-1)else gt L k:=fun k k0=>jw L om om om om k0
 intro p q p0 pq q1 qj;rw[g p om,g q om,if_neg (show ¬q=j-1 from qj)];by_cases e:q=j
 ·rw[if_pos e]
  by_cases e2:p=j-1
  ·rw[if_pos e2];exact w'
  ·rw[if_neg e2,if_neg (show ¬p=j by omega)]
   exact h p (j-1) p0 om om om
 ·rw[if_neg e]
  by_cases e2:p=j-1
  ·rw[if_pos e2]
   exact h j q om om q1 e
  ·rw[if_neg e2]
   by_cases e3:p=j
   ·rw[if_pos e3]
    exact h (j-1) q om om q1 e
   ·rw[if_neg e3]
    exact h p q p0 pq q1 e
end
theorem Er(h:af)(n:Nat){b:Nat}(hb:h.next<=b)(es:Nat)(cs:List Value):Ext h ((h.aG n).putAt b es cs):=
 ⟨by simp[af.aG,af.putAt],fun l=>by simp only[af.aG,af.putAt];omega,by simp only[af.aG,af.putAt];exact Nat.min_le_left _ _,fun i hi=>by
  simp only[af.aG,af.putAt];rw[cQ.aS _ _ om]⟩
theorem pW{α:Type}{enc:α->List Value}(fz:∀x,(enc x).all aE=true)(l:List α):(l.flatMap enc).all aE=true:=by
 rw[List.all_flatMap];simp only[fz,List.all_eq_true,implies_true]
theorem Jk{a b:Nat}(h:a≠b):Nat.beq a b=false:=by
 cases q:Nat.beq a b with
 |false=>rfl
 |true=>exact absurd (Nat.eq_of_beq_eq_true q) h
end Go.Proofs.YtdpbiegfljmhmaaGreat
namespace Go.cS
theorem Cells.part{h:af}{a:Option Addr}{n es:Nat}{cells:List Value}(c:Cells h a n es cells){i m:Nat}(hi:i+m<=n):Cells h (a.map (fT · (i*es))) m es ((cells.drop (i*es)).take (m*es)):=by
 have hlen:=c.length;have hm:i*es+m*es<=n*es:=by rw[<-Nat.add_mul];exact Nat.mul_le_mul_right es hi
 cases a with
 |none=>
  obtain⟨rfl,rfl⟩:=c;exact⟨om,by simp⟩
 |some ad=>
  obtain⟨h1,h2,h3⟩:=c;obtain⟨b,o,sp⟩:=ad;simp only at h1;subst h1;refine⟨rfl,h2,?_⟩;unfold af.aM fT at *;simp only[]at h3 ⊢;split at h3
  ·rename_i cs vN
   obtain⟨e1,e2⟩:=Dw h3;refine nS ?_ ?_
   ·subst e1
    rw[List.drop_take,List.take_take,List.drop_drop,Nat.min_eq_left om]
   ·simp only[List.length_take,List.length_drop];omega
  ·cases h3
theorem Cells.head{h:af}{a:Option Addr}{n es:Nat}{cells:List Value}(c:Cells h a n es cells){m:Nat}(hm:m<=n):Cells h a m es (cells.take (m*es)):=by
 have:=c.part (i:=0) (m:=m) om;rw[Nat.zero_mul,List.drop_zero]at this;cases a with
 |none=>exact this
 |some ad=>exact this
theorem Gs{α:Type}{enc:α->List Value}{es:Nat}(he:∀x,(enc x).length=es)(l:List α)(k:Nat):(l.flatMap enc).take (k*es)=(l.take k).flatMap enc:=by
 induction l generalizing k with
 |nil=>simp
 |cons x l ih=>
  cases k with
  |zero=>simp
  |succ k=>rw[List.flatMap_cons,List.take_succ_cons,List.flatMap_cons,List.take_append,he,List.take_of_length_le (by rw[he,Nat.succ_mul];omega),show(k+1)*es-es=k*es by rw[Nat.succ_mul];omega,ih]
def uy(P:Program)(h:af)(e es:Nat)(a:Option Addr)(n c:Nat)(news:List Value):Prop:=jy P h e es false (.slice a n c)=some (n,news)/\news.length=n*es
theorem uy.of{P:Program}{h:af}{e es:Nat}{a:Option Addr}{n:Nat}{news:List Value}(c:Nat)(hs:Cells h a n es news):uy P h e es a n c news:=by
 refine⟨?_,hs.length⟩;unfold jy;simp only[cond_false];cases a with
 |none=>obtain⟨rfl,rfl⟩:=hs;simp
 |some ad=>
  obtain⟨h1,h2,h3⟩:=hs;simp only[h3]
theorem uy.nothing(P:Program)(h:af)(e es:Nat)(x c:Nat):uy P h e es (some ⟨0,0,some x⟩) 0 c []:=by
 refine⟨?_,by simp⟩;unfold jy af.aM;rfl
theorem D8{P:Program}{t t2 e es:Nat}(hT:fZ P t e es)(I2:P.underlying t2=some (.slice e)){h:af}{b n c n2 c2:Nat}{a2:Option Addr}{cells news:List Value}(hp:FO h es b n c cells)(hs:uy P h e es a2 n2 c2 news)(fz:cells.all aE=true)(qQ:news.all aE=true)(tV:n+n2<=1000000) :
  ∃b' c' h',cN P h [t,t2] [.slice (some ⟨b,0,none⟩) n c,.slice a2 n2 c2]=some (.slice (some ⟨b',0,none⟩) (n+n2) c',h')/\FO h' es b' (n+n2) c' (cells++news)/\h.next<=h'.next/\(b'=b\/h.next<=b')/\(∀j,j<h.next->j≠b->h'.m.get j=h.m.get j)/\(∀h0,Ext h0 h->h0.next<=b->Ext h0 h'/\h0.next<=b'):=by
 obtain⟨ho,hb,hl,hc⟩:=hp;obtain⟨by_,qY,nB⟩:=hT.bytes;obtain⟨z,hz,za⟩:=hT.zero;obtain⟨gK,sF⟩:=hs;have Iz:cL c=n:=by
  rcases hc with ⟨rfl,rfl⟩|rfl
  ·rfl
  ·exact cg (by unfold aR;omega)
 unfold cN;simp only[hT.ye,hT.size,qY,I2,hz,cT,gK];rw[Iz];by_cases h0:n2=0
 ·subst h0
  have:news=[]:=by simpa using sF
  subst this;obtain⟨h',hw,mB,o7⟩:=ho.write (o:=n*es) (vs:=[]) (by simp;omega);have U3:h.ik (fT ⟨b,0,none⟩ (n*es)) []=some h':=by
   unfold af.ik fT;simp only[List.all_nil,cond_true,Nat.zero_add];exact hw
  rw[bm (show n+0<=n by omega)];simp only[cond_true,U3];have e2:cells.take (n*es)++([]++cells.drop (n*es+([]:List Value).length))=cells:=by simp
  rw[e2]at mB;exact⟨b,c,h',rfl,⟨by simpa using mB,by rw[o7.next];exact hb,by simpa using hl,hc⟩,by rw[o7.next];exact Nat.le_refl _,.inl rfl,fun j _ j1=>o7.get j j1,fun h0 e0 mL=>⟨o7.ext e0 mL,mL⟩⟩
 ·rw[fe om]
  simp only[cond_false];rw[bm (show n+n2<=1073741824 by omega),bm nB,qQ,za,sF];simp only[Bool.and_self,Nat.beq_refl,cond_true];have hr:h.aM ⟨b,0,none⟩ (n*es)=some cells:=by rw[ho.aM om];simp[<-hl]
  simp only[hr];rcases hc with ⟨rfl,rfl⟩|rfl
  ·rw[dW (show 0<aR by unfold aR;omega),fz]
   simp only[cond_true];refine⟨_,_,_,rfl,⟨bW.push _ _ _,by simp[af.push],by simp[hl,sF],.inr rfl⟩,by simp[af.push],.inr (Nat.le_refl _),fun j j0 _=>(Ext.push h es _).get j j0,fun h0 e0 mL=>⟨e0.trans (.push _ _ _),e0.next⟩⟩
  ·rw[cF (dv es n),fz]
   simp only[cond_false,cond_true];rw[show h.m.get b=some (.live true es cells)from ho];simp only[Nat.beq_refl,cond_true];refine⟨_,_,_,rfl,⟨bW.push (h.kill b) es _,by simp[af.push,af.kill],by simp[hl,sF,Nat.add_mul],.inr rfl⟩,by simp[af.push,af.kill],.inr (Nat.le_refl _),fun j j0 j1=>?_,fun h0 e0 mL=>⟨(e0.kill mL).trans (.push _ _ _),?_⟩⟩
   ·have k1:(h.kill b).m.get j=h.m.get j:=by unfold af.kill;simp only[];rw[cQ.aS _ _ (fun q=>j1 q.symm)]
    rw[<-k1];exact(Ext.push (h.kill b) es _).get j (by unfold af.kill;exact j0)
   ·exact e0.next
end Go.cS
namespace Go.Proofs.YtdpbiegfljmhmaaGreat
open Go.cS
set_option maxRecDepth 100000
theorem mixed:Tryz.prog.follows .mixedOrders=true:=by kernel_rfl
theorem names : Tryz.prog.funcs.toList.all (fun fn => !(fn.name == "runtime.NumGoroutine")) = true := by kernel_rfl
theorem named(g : FuncId)(fn : Func)(h : Tryz.prog.funcs[g]? = some fn) : (fn.name == "runtime.NumGoroutine") = false := by
 have:=List.all_eq_true.1 names fn (List.mem_of_getElem? (by simpa using h));simpa using this
noncomputable def S9:Code:=Tryz.f90.body.getD .skip
theorem wm:Tryz.f90.body=some S9:=by kernel_rfl
theorem Ar:fZ Tryz.prog 22 28 1:=⟨by kernel_rfl,by kernel_rfl,⟨24,by kernel_rfl,om⟩,⟨.slice none 0 0,by kernel_rfl,rfl⟩⟩
theorem zLL:ia Tryz.prog 28=some (.slice none 0 0):=by kernel_rfl
theorem uI:Tryz.prog.underlying 3=some (.int .i64):=by kernel_rfl
theorem rU(v:Value):∀n,bB [v] n=List.replicate n v
 |0=>rfl
 |n+1=>by simp only[bB,List.replicate_succ,rU v n];rfl
theorem B4{h:af}{b i n M:Nat}{J:Int}(eJ:J=M){cs:List Value}(hm:bW h b 1 cs)(hl:cs.length=n)(hi:i<n)(hM:i+M=n+1)(hn:n<=1000)(fz:cs.all aE=true) :
  cN Tryz.prog h [22,3] [.slice (some ⟨b,0,none⟩) i n,.int .i64 J]=some (.slice (some ⟨h.next,0,none⟩) (n+1) (aw 1 (n+1)),h.push 1 (cs.take i++List.replicate M (.slice none 0 0))):=by
 subst eJ;have hT:=Ar;obtain⟨by_,qY,nB⟩:=hT.bytes;have hs:n<aR:=by unfold aR;omega
 have gK:jy Tryz.prog h 28 1 true (.int .i64 (M:Int))=some (M,List.replicate M (.slice none 0 0)):=by
  unfold jy;simp only[zLL,qY,cond_true];rw[if_pos ⟨om,om,nB,rfl⟩];show some (_,bB [.slice none 0 0] _)=_;rw[rU];rfl
 have hr:h.aM ⟨b,0,none⟩ i=some (cs.take i):=by rw[hm.aM om];simp
 have Fp:(List.replicate M (Value.slice none 0 0)).all aE=true:=by simp[aE]
 have V6:(cs.take i).all aE=true:=by
  rw[List.all_eq_true]at fz ⊢;exact fun v hv=>fz v (List.mem_of_mem_take hv)
 unfold cN;simp only[hT.ye,hT.size,qY,uI,zLL,cT,gK,ff hs];rw[fe om,bm (show i+M<=1073741824 by omega),bm nB];simp only[cond_false,cond_true,hr,Fp,V6,dW hs,Bool.and_self,Bool.true_and,hM,List.length_replicate,Nat.mul_one,Nat.beq_refl,show(Value.slice none 0 0).cells.toList.length.beq 1=true from rfl]
theorem tz{h:af}{b o m k c ns cp:Nat}{xs l:List Value}{a:Addr}(ho:bW h b 1 xs)(hk:Nat.min ns m=k)(hr:h.aM a k=some l)(hl:l.length=k)(hox:o+k<=xs.length)(fz:l.all aE=true) :
  ∃h',ss Tryz.prog h [22,22] [.slice (some ⟨b,o,none⟩) m c,.slice (some a) ns cp]=some (.int .i64 (k:Nat),h')/\bW h' b 1 (xs.take o++(l++xs.drop (o+k)))/\j7 h h' b:=by
 obtain⟨h',w1,w2,w3⟩:=ho.write (o:=o) (vs:=l) om;rw[hl]at w2;refine⟨h',?_,w2,w3⟩;unfold ss;simp only[Ar.ye,Ar.size,hk,Nat.mul_one,hr];unfold af.ik;simp only[fz,cond_true,w1]
variable{F:aZ}{call head arith cmp xF dH jz conv neg imax uf ofNat Fy place G6 nz KY rd wr push next vz nat iK IJ rj cut Ba IK mS part app OA putAt fresh az aG wrote bX lt ne jX xG rH yn uh IL Fz IM bytes Tx:_}(hA:AP F ⟨call,head,arith,cmp,xF,dH,jz,conv,neg,imax,uf,ofNat,Fy,place,G6,nz,KY,rd,wr,push,next,vz,nat,iK,IJ,rj,cut,Ba,IK,mS,part,app,OA,putAt,fresh,az,aG,wrote,bX,lt,ne,jX,xG,rH,yn,uh,IL,Fz,IM,bytes,Tx⟩)
include hA
theorem Gk{h:af}(aq:h.low<=h.next){n:Int}{Q:Value->af->Prop}(hQ:Q (.agg #[.int .i64 n,.int .i64 1]) h):call 37 [.int .i64 n] h Q:=by
 refine hA.aN Tryz.func37 x37.2 (hA.alike _ _ _ rfl) aq (zc ?_);exact hQ
theorem JF{h:af}(aq:h.low<=h.next){n d:Int}(hn:i64 n)(n0:-9223372036854775808<n)(hd:0<d){Q:Value->af->Prop}(hQ:Q (.int .i64 (n / d)) h):call 82 [.int .i64 n,.int .i64 d] h Q:=by
 unfold i64 at hn;have t0:=Int.natAbs_tdiv_le_natAbs n d;refine hA.aN Tryz.func82 x82.2 (hA.alike _ _ _ rfl) aq (zc ?_);have e1:arith .quo .i64 n d=n.tdiv d:=by rw[Al hA,wrap64 om om]
 have e2:arith .rem .i64 n d=n.tmod d:=DD hA _ _ _;have key:=Int.mul_tdiv_add_tmod n d;have ZA:-d<n.tmod d:=Int.lt_tmod_of_pos n hd;have lt2:n.tmod d<d:=Int.tmod_lt_of_pos n hd;generalize n.tdiv d=t at *;generalize n.tmod d=s at *;have ed:=Int.mul_ediv_add_emod n d;have m0:=Int.emod_nonneg n (show d≠0 by omega);have m1:=Int.emod_lt_of_pos n hd
 (refine zq ?_;repeat ((first|rw[e1]|rw[e2]);refine zq ?_))
 refine br (s<0) (by rw[aA hA]) (fun c=>?_) (fun c=>?_)<;>refine zc ?_
 ·have e3:t-1=n / d:=by
   have w:s+d+d*(t-1)=n:=by rw[Int.mul_sub,Int.mul_one];omega
   exact((Int.ediv_emod_unique hd).2 ⟨w,om,om⟩).1.symm
  have t1:-9223372036854775808<=t-1:=om
  rw[bP hA om om,e3];exact hQ
 ·have e3:t=n / d:=((Int.ediv_emod_unique (r:=s) hd).2 ⟨om,om,om⟩).1.symm
  rw[e3];exact hQ
theorem M6{h:af}(aq:h.low<=h.next){n d:Int}{q:Rat}(hq:gA n d q){Q:Value->af->Prop}(hQ:∀h',Ext h h'->Q (.tuple #[.int .i64 (n / d),.int .i64 0]) h'):call 67 [.agg #[.int .i64 n,.int .i64 d]] h Q:=by
 have d1:=hq.den;have n1:=hq.2.2.1;rw[<-hq.1]at n1;refine hA.aN Tryz.func67 x67.2 (hA.alike _ _ _ rfl) aq (zc ?_);refine pU hA aq hq.kf hq.kQ (fun e h1 k1 x1=>⟨_,rfl,?_⟩);obtain rfl:e=0:=by
  rcases k1 with ⟨q,_⟩|⟨_,w⟩
  ·exact q
  ·exact absurd hq.ok w
 refine zc ?_;refine br False (by rw[bT hA];rfl) (fun q=>q.elim) (fun _=>?_)<;>refine zc ?_;refine JF hA (x1.aC aq) hq.kf om om ⟨_,rfl,?_⟩;refine zc ?_;exact hQ _ x1
theorem HY{t e es:Nat}(hT:fZ Tryz.prog t e es){α:Type}{enc:α->List Value}(he:∀x,(enc x).length=es)(KO:0<es)(fz:∀x,(enc x).all aE=true){h:af}{a:Option Addr}{n c:Nat}{l:List α}{v:α}(hp:oD h es a n c (l.flatMap enc))(hn:n<=100000){C:Option Addr->Nat->Nat->af->Prop}
  (hC:∀a' c' h',oD h' es a' (n+1) c' ((l++[v]).flatMap enc)->(∀h0,Ext h0 h->ky h0.next a->Ext h0 h'/\ky h0.next a')->C a' (n+1) c' h') :
  app [t,t] [.slice a n c,.slice (some ⟨next h,0,none⟩) 1 1] (push h es (enc v)) C:=by
 rw[vd hA,df hA,cM hA];have hs:Cells (h.push es (enc v)) (some ⟨h.next,0,none⟩) 1 es (enc v):=⟨rfl,by simp[af.push],by rw[(bW.push h es _).aM (by rw[he];omega),List.drop_zero,List.take_of_length_le (by rw[he];omega)]⟩;have Fp:(l.flatMap enc).all aE=true:=by
  rw[List.all_flatMap];simp only[fz,List.all_eq_true,implies_true]
 obtain⟨a',c',h',h1,h2,h3⟩:=Af hT hT.ye (c2:=1) (hp.ext (.push h es (enc v))) hs Fp (fz v) om om;refine⟨a',n+1,c',h',h1,hC a' c' h' (by simpa using h2) (fun h0 e0 f0=>h3 h0 (e0.trans (.push _ _ _)) f0)⟩
theorem PI{t e es:Nat}(hT:fZ Tryz.prog t e es){α:Type}{enc:α->List Value}(he:∀x,(enc x).length=es)(KO:0<es)(fz:∀x,(enc x).all aE=true){h0 h h9:af}(aq:h0.low<=h0.next)(e0:Ext h0 h){N k:Nat}(hk:k<N)(iT:h9=aG h N)
  {a:Option Addr} {n c:Nat} {l:List α} {v:α} (hp:oD h es a n c (l.flatMap enc)) (hf:ky h0.next a) (hn:n<=100000) {C:Option Addr->Nat->Nat->af->Prop}
  (hC:∀a' c' h',oD (az (putAt h9 (bX (next h) k) es (enc v)) h') es a' (n+1) c' ((l++[v]).flatMap enc)->ky h0.next a'->Ext h0 (az (putAt h9 (bX (next h) k) es (enc v)) h')->C a' (n+1) c' h') :
  app [t,t] [.slice a n c,.slice (some ⟨bX (next h) k,0,none⟩) 1 1] (fresh (putAt h9 (bX (next h) k) es (enc v))) C:=by
 rw[nW hA]at iT;subst iT;rw[dj hA,cM hA,OW hA]at hC ⊢;rw[jQ hA];have x1:Ext h ((h.aG N).putAt (h.next+k) es (enc v)):=Er h N om es _;have o1:=bW.putAt (h.aG N) (h.next+k) es (enc v);have n1:((h.aG N).putAt (h.next+k) es (enc v)).next=h.next+N:=rfl;generalize (h.aG N).putAt (h.next+k) es (enc v)=X at *;have xf:=x1.trans (Ext.dK X);have o2:bW X.dK (h.next+k) es (enc v):=o1.ext (Ext.dK X) om;have hs:Cells X.dK (some ⟨h.next+k,0,none⟩) 1 es (enc v):=⟨rfl,by show h.next+k<X.next;omega,by rw[o2.aM (by rw[he];omega),List.drop_zero,List.take_of_length_le (by rw[he];omega)]⟩;obtain⟨a',c',h',h1,h2,h3⟩:=Af hT hT.ye (c2:=1) (hp.ext xf) hs (pW fz l) (fz v) om om;obtain⟨w1,w2⟩:=h3 h0 (e0.trans xf) hf;rw[vd hA];refine⟨a',n+1,c',h',h1,hC a' c' h' ?_ w2 ?_⟩
 ·rw[fg hA]
  refine oD.gH (h:=h') (by simpa using h2) (Nat.le_refl _) (fun ad cX hb=>rfl)
 ·rw[fg hA]
  exact Ext.Bu w1 (e0.trans x1) aq
theorem Ta{t:TypeId}{e es:Nat}(hT:fZ Tryz.prog t e es){a:Option Addr}{n:Nat}(hn:n<=1000000){k:IntKind}{i:Int}(i0:1<=i)(i1:i<n){C:Option Addr->Nat->Nat->Prop}
  (h:C (a.map (fT · (i.toNat*es))) (n-i.toNat) (aw es (n-i.toNat))):Ba t (.slice a n (aw es n)) (some (.int k i)) none none C:=by
 have tA:Ba t (.slice a n (aw es n)) (some (.int k i)) none none C = ∃a' n' c',gF Tryz.prog t (.slice a n (aw es n)) (some (.int k i)) none none=some (.slice a' n' c')/\C a' n' c':=by have:=hA.eq;injections;subst_vars;rfl
 rw[tA];refine⟨_,_,_,?_,h⟩;have hs:n<aR:=by unfold aR;omega
 unfold gF;simp only[hT.ye,hT.size];unfold kZ;simp only[gq,iB,gX,bound];rw[if_pos ⟨om,om⟩];simp only[];rw[cg hs,bm (Nat.le_refl _),cF (dv es n),jT hs];simp only[cond_true,cond_false,Option.isSome_none,Bool.or_false];rw[Jk (show i.toNat≠0 by omega),dW om];simp
theorem BS{t:TypeId}{e es:Nat}(hT:fZ Tryz.prog t e es){b o n:Nat}(hn:n<=1000000){k:IntKind}{i:Int}(i0:0<=i)(i1:i<n){C:Option Addr->Nat->Nat->Prop}
  (h:∀c',C (some ⟨b,o+i.toNat*es,none⟩) (n-i.toNat) c'):Ba t (.slice (some ⟨b,o,none⟩) n (aw es n)) (some (.int k i)) none none C:=by
 by_cases c:1<=i
 ·exact Ta hA hT hn c i1 (h _)
 obtain rfl:i=0:=om
 have tA:Ba t (.slice (some ⟨b,o,none⟩) n (aw es n)) (some (.int k 0)) none none C = ∃a' n' c',gF Tryz.prog t (.slice (some ⟨b,o,none⟩) n (aw es n)) (some (.int k 0)) none none=some (.slice a' n' c')/\C a' n' c':=by have:=hA.eq;injections;subst_vars;rfl
 rw[tA];have h:=h (aw es n);rw[show o+(0:Int).toNat*es=o by simp,show n-(0:Int).toNat=n by simp]at h;refine⟨_,_,_,?_,h⟩;have hs:n<aR:=by unfold aR;omega
 unfold gF;simp only[hT.ye,hT.size];unfold kZ;simp only[gq,iB,gX,bound];rw[if_pos ⟨om,om⟩];simp only[];rw[cg hs,bm (Nat.le_refl _),cF (dv es n),jT hs];simp
theorem Es{t:TypeId}{e es:Nat}(hT:fZ Tryz.prog t e es){b o n c:Nat}(ec:c=aw es n)(hn:n<=1000000){k:IntKind}{i:Int}(i0:0<=i)(i1:i<n){C:Option Addr->Nat->Nat->Prop}
  (h:∀c',C (some ⟨b,o+i.toNat*es,none⟩) (n-i.toNat) c'):Ba t (.slice (some ⟨b,o,none⟩) n c) (some (.int k i)) none none C:=by
 subst ec;exact BS hA hT hn i0 i1 h
theorem Ma{t:TypeId}{e es:Nat}(hT:fZ Tryz.prog t e es){h:af}{a:Option Addr}{n c:Nat}(hn:n<=1000000)(hc:c=aw es n\/(n=0/\a=none/\c=0)){cells:List Value}(hs:Cells h a n es cells){k:IntKind}{i:Nat}(hi:i<=n){C:Option Addr->Nat->Nat->Prop}
  (hC:∀a' c',(∀h',Ext h h'->uy Tryz.prog h' e es a' (n-i) c' (cells.drop (i*es)))->C a' (n-i) c'):Ba t (.slice a n c) (some (.int k i)) none none C:=by
 have tA:Ba t (.slice a n c) (some (.int k i)) none none C = ∃a' n' c',gF Tryz.prog t (.slice a n c) (some (.int k i)) none none=some (.slice a' n' c')/\C a' n' c':=by have:=hA.eq;injections;subst_vars;rfl
 have hlen:=hs.length;rw[tA];unfold gF;simp only[hT.ye,hT.size];unfold kZ;simp only[gq,iB,gX,bound];rcases hc with rfl|⟨rfl,rfl,rfl⟩
 ·have Cj:n<aR:=by unfold aR;omega
  rw[if_pos ⟨om,om⟩];simp only[];rw[cg Cj,bm (Nat.le_refl _),cF (dv es n),jT Cj];simp only[cond_true,cond_false,Option.isSome_none,Bool.or_false,Int.toNat_natCast];by_cases c0:i=0
  ·subst c0
   rw[show Nat.beq 0 0=true from rfl];simp only[cond_true];refine⟨_,_,_,rfl,hC _ _ (fun h' x=>?_)⟩;rw[Nat.zero_mul,List.drop_zero];exact uy.of _ (hs.ext x)
  rw[Jk c0];simp only[cond_false];by_cases c1:i<n
  ·rw[dW c1]
   simp only[Bool.true_and,Nat.beq_refl,cond_true];refine⟨_,_,_,rfl,hC _ _ (fun h' x=>?_)⟩;have:=(hs.ext x).part (i:=i) (m:=n-i) om;rw[List.take_of_length_le (by rw[List.length_drop,hlen,Nat.sub_mul];omega)]at this;exact uy.of _ this
  ·have e1:i=n:=om
   subst e1;rw[cF (Nat.le_refl _)];simp only[Bool.false_and,cond_false];rw[show Nat.beq i i=true by simp];simp only[cond_true,Nat.sub_self];refine⟨_,_,_,rfl,?_⟩;have:=hC (some ⟨0,0,some 0⟩) aR (fun h' _=>by
    rw[Nat.sub_self,List.drop_of_length_le om];exact uy.nothing _ _ _ _ _ _)
   rwa [Nat.sub_self]at this
 ·obtain rfl:i=0:=om
  obtain⟨_,rfl⟩:=hs;rw[if_pos ⟨om,by simp⟩];simp only[];refine⟨none,0,0,rfl,?_⟩;exact hC none 0 (fun h' _=>by simpa using uy.of (P:=Tryz.prog) (h:=h') (e:=e) (es:=es) 0 (show Cells h' none 0 es []from⟨rfl,rfl⟩))
theorem HZ{t:TypeId}{e es:Nat}(hT:fZ Tryz.prog t e es){b o n:Nat}(hn:n<=1000000){k:IntKind}{I:Int}{i:Nat}(eI:I=i)(i1:i<n){C:Option Addr->Nat->Nat->Prop}
  (h:C (some ⟨b,o+i*es,none⟩) (n-i) (n-i)):Ba t (.slice (some ⟨b,o,none⟩) n n) (some (.int k I)) none none C:=by
 subst eI;have tA:Ba t (.slice (some ⟨b,o,none⟩) n n) (some (.int k i)) none none C = ∃a' n' c',gF Tryz.prog t (.slice (some ⟨b,o,none⟩) n n) (some (.int k i)) none none=some (.slice a' n' c')/\C a' n' c':=by have:=hA.eq;injections;subst_vars;rfl
 rw[tA];refine⟨_,_,_,?_,h⟩;have hs:n<aR:=by unfold aR;omega
 unfold gF;simp only[hT.ye,hT.size];unfold kZ;simp only[gq,iB,gX,bound,ff hs];rw[if_pos ⟨om,om⟩];simp only[bm (Nat.le_refl n),dW hs,cond_true,Bool.true_or];rw[Jk (show n≠(i:Int).toNat by omega)];rfl
set_option maxHeartbeats 1000000 in
theorem M7(hF:dx Tryz.prog F){h:af}(aq:h.low=h.next){b vb n i:Nat}{I:Int}(eI:I=i){cs:List Value}{v:Value}(hb:b<h.next)(hm:bW h b 1 cs)(hl:cs.length=n)(TL:vb<h.next)(hv:bW h vb 1 [v])(hi:i<n)(hn:n<=1000)(fz:cs.all aE=true)(Tb:aE v=true){R:Value->af->Prop}
  (hR:∀b2 h',bW h' b2 1 (cs.take i++v :: cs.drop i)->h.next<=b2->b2<h'.next->h.next<=h'.low->R (.slice (some ⟨b2,0,none⟩) (n+1) (aw 1 (n+1))) h') :
  qR progU Tryz.f90.ntmps S9 ⟨rk [.slice (some ⟨b,0,none⟩) n n,.int .i64 I,.slice (some ⟨vb,0,none⟩) 1 1] 0 [],0,[],h⟩ (fun e s'=>(e=.normal\/e=.ret)/\∃v,lk s'.env 6=some v/\dr v=true/\R v s'.h):=by
 have run:=fun {c:Code} {s:SS} {Q:Exit->SS->Prop} (hl:bD c=[]) (hr:bE c=[])=>qR.run hA.toAOK live mixed hF named Tryz.func90 wm (c:=c) hl hr (s:=s) (Q:=Q)
 have e1:ofNat 1=1:=aI hA 1;obtain⟨N,eN⟩:∃z:Int,z=n:=⟨_,rfl⟩;have e2:ofNat n=N:=by rw[eN];exact aI hA n
 refine run rfl rfl (zc ?_);refine HZ hA Ar om eI hi ?_;refine zc ?_;rw[e1,show cmp .eql 1 0=false by rw[de hA];rfl];refine zc ?_;rw[e2,show cmp .eql I N=false by rw[de hA];simp;omega];refine zc ?_;have e3:arith .add .i64 N 1=N+1:=aF hA om om;refine⟨(show lt n 9223372036854775808=(n<9223372036854775808) by have:=hA.eq;injections;subst_vars;rfl) ▸ om,?_⟩;refine zc ?_;rw[e2,e3,show cmp .gtr (N+1) N=true by rw[dc hA];simp;omega];refine zc ?_;refine⟨by rw[Lz hA,ff (by unfold aR;omega)];omega,?_⟩;refine zc ?_;have e4:arith .sub .i64 (N+1) I=N+1-I:=bP hA om om;rw[e3,e4];rw[vd hA];obtain⟨M,eM⟩:∃z:Int,z=N+1-I:=⟨_,rfl⟩;rw[<-eM];have en:nat I=i:=by rw[Ho hA];omega
 rw[en];refine⟨_,_,_,_,B4 (M:=n+1-i) om hm hl hi om hn fz,?_⟩;obtain⟨xs,ZO⟩:∃z,z=cs.take i++List.replicate (n+1-i) (Value.slice none 0 0):=⟨_,rfl⟩;have ZP:xs.length=n+1:=by rw[ZO];simp;omega
 have o1:bW (h.push 1 xs) h.next 1 xs:=.push _ _ _;have x1:Ext h (h.push 1 xs):=.push _ _ _;rw[<-ZO];obtain⟨h1,XC⟩:∃z,z=h.push 1 xs:=⟨_,rfl⟩;rw[<-XC]at o1 x1 ⊢;obtain⟨q,eq⟩:∃z,z=n+1:=⟨_,rfl⟩;rw[<-eq];obtain⟨nx,enx⟩:∃z,z=h.next:=⟨_,rfl⟩;rw[<-enx]at o1 ⊢;obtain⟨cq,H2⟩:∃z,z=aw 1 q:=⟨_,rfl⟩;rw[<-H2];refine zc ?_;refine Es hA Ar (n:=q) H2 om (i:=I) om om (fun c'=>?_);rw[show 0+I.toNat*1=i by omega,show q-I.toNat=q-i by omega];obtain⟨m1,em1⟩:∃z,z=q-i:=⟨_,rfl⟩;rw[<-em1];refine zc ?_;rw[Hp hA];have yW:=hv.ext x1 TL;obtain⟨h2,k1,k2,k3⟩:=tz (m:=m1) (c:=c') (cp:=1) (ns:=1) (o:=i) (k:=1) (l:=[v]) (a:=⟨vb,0,none⟩) o1 (by show min 1 m1=1;omega) (yW.aM (o:=0) (n:=1) (by simp)) rfl om (by simp[Tb]);refine⟨_,h2,k1,?_⟩;refine zc ?_;have e5:arith .add .i64 I 1=I+1:=aF hA om om;rw[e5];refine Es hA Ar (n:=q) H2 om (i:=I+1) om om (fun c2=>?_);rw[show 0+(I+1).toNat*1=i+1 by omega,show q-(I+1).toNat=n-i by omega];obtain⟨m2,QL⟩:∃z,z=n-i:=⟨_,rfl⟩;obtain⟨i1,MX⟩:∃z,z=i+1:=⟨_,rfl⟩;rw[<-QL,<-MX];refine zc ?_;refine HZ hA Ar om eI hi ?_;rw[show 0+i*1=i by omega,<-QL];refine zc ?_;rw[Hp hA,jQ hA,nW hA];have XD:bW (h2.aG 9).dK b 1 cs:=k3.own (hm.ext x1 hb) om;have o2:bW (h2.aG 9).dK nx 1 (xs.take i++([v]++xs.drop (i+1))):=k2;obtain⟨h3,p1,p2,p3⟩:=tz (m:=m2) (c:=c2) (cp:=m2) (ns:=m2) (o:=i1) (k:=m2) (l:=cs.drop i) (a:=⟨b,i,none⟩) o2 (Nat.min_self _) (by rw[XD.aM om,List.take_of_length_le (by simp;omega)]) (by simp;omega) (by simp;omega) (by rw[List.all_eq_true]at fz ⊢;exact fun v hv=>fz v (List.mem_of_mem_drop hv));refine⟨_,h3,p1,?_⟩;obtain⟨k,ek⟩:∃z:Int,z=m2:=⟨_,rfl⟩;rw[<-ek];refine zc ?_;refine⟨.inr trivial,_,rfl,rfl,?_⟩;rw[H2,eq];have ZQ:xs.take i=cs.take i:=by rw[ZO,List.take_append_of_le_length (by simp;omega),List.take_take,Nat.min_self]
 have Ug:(xs.take i++([v]++xs.drop (i+1))).take i1++(cs.drop i++(xs.take i++([v]++xs.drop (i+1))).drop (i1+m2))=cs.take i++v :: cs.drop i:=by
  have z1:(xs.take i++([v]++xs.drop (i+1))).drop (i1+m2)=[]:=List.drop_eq_nil_of_le (by simp[ZP];omega);have z2:(xs.take i++([v]++xs.drop (i+1))).take i1=cs.take i++[v]:=by
   rw[<-List.append_assoc,List.take_append_of_le_length (by simp[ZP];omega),List.take_of_length_le (by simp[ZP];omega),ZQ]
  rw[z1,z2];simp
 rw[Ug]at p2;refine hR nx _ ?_ om ?_ ?_
 ·rw[fg hA];exact p2
 ·rw[fg hA]
  show nx<h3.next;rw[p3.next];show nx<h2.next+9;rw[k3.next,XC];show nx<h.next+1+9;omega
 ·rw[fg hA]
  show h.next<=Nat.min h2.low h3.low;have q1:h.next<=h2.low:=by rw[k3.low,XC];show h.next<=Nat.min h.low nx;exact Nat.le_min.2 ⟨om,om⟩
  have q2:h.next<=h3.low:=by
   rw[p3.low];show h.next<=Nat.min (h2.next+9) nx;have:h2.next=h.next+1:=by rw[k3.next,XC];rfl
   exact Nat.le_min.2 ⟨om,om⟩
  exact Nat.le_min.2 ⟨q1,q2⟩
theorem tB{t:TypeId}{e es:Nat}(hT:fZ Tryz.prog t e es){b o n m c:Nat}(ec:c=aw es m)(hn:m<=1000000)(Xe:n<=m){k:IntKind}{I:Int}{i:Nat}(eI:I=i)(i1:i<n){C:Option Addr->Nat->Nat->Prop}
  (h:∀c',C (some ⟨b,o+i*es,none⟩) (n-i) c'):Ba t (.slice (some ⟨b,o,none⟩) n c) (some (.int k I)) none none C:=by
 subst eI;subst ec;have tA:Ba t (.slice (some ⟨b,o,none⟩) n (aw es m)) (some (.int k i)) none none C = ∃a' n' c',gF Tryz.prog t (.slice (some ⟨b,o,none⟩) n (aw es m)) (some (.int k i)) none none=some (.slice a' n' c')/\C a' n' c':=by have:=hA.eq;injections;subst_vars;rfl
 rw[tA];have hs:m<aR:=by unfold aR;omega
 by_cases c:i=0
 ·subst c
  have h:=h (aw es m);rw[show o+0*es=o by simp,Nat.sub_zero]at h;refine⟨_,_,_,?_,h⟩;unfold gF;simp only[hT.ye,hT.size];unfold kZ;simp only[gq,iB,gX,bound,cg hs];rw[if_pos ⟨om,om⟩];simp only[bm Xe,cF (dv es m),cond_true,cond_false,Option.isSome_none,Bool.or_false];rfl
 ·refine⟨_,_,_,?_,h (aw es (m-i))⟩
  unfold gF;simp only[hT.ye,hT.size];unfold kZ;simp only[gq,iB,gX,bound,cg hs];rw[if_pos ⟨om,om⟩];simp only[bm Xe,cF (dv es m),cond_true,cond_false,Option.isSome_none,Bool.or_false,jT hs];rw[Jk (show(i:Int).toNat≠0 by omega),dW (show(i:Int).toNat<m by omega)];simp[fT]
set_option maxHeartbeats 1000000 in
theorem M8(hF:dx Tryz.prog F)(hov:∀a b h',jH a b=some h'->F 108 a b=some h'){h:af}(aq:h.low=h.next){b vb n i:Nat}{I:Int}(eI:I=i){cs:List Value}{v:Value}(hb:b<h.next)(hm:bW h b 1 (cs++[.chan none]))(hl:cs.length=n)(TL:vb<h.next)(dX:b≠vb)(hv:bW h vb 1 [v])(hi:i<n)(hn:n<=1000)(fz:cs.all aE=true)(Tb:aE v=true){R:Value->af->Prop}
  (hR:∀h',bW h' b 1 (cs.take i++v :: cs.drop i)->h.next<=h'.next->(∀k,k≠b->h'.m.get k=h.m.get k)->b<=h'.low->R (.slice (some ⟨b,0,none⟩) (n+1) (aw 1 (n+1))) h') :
  qR progU Tryz.f90.ntmps S9 ⟨rk [.slice (some ⟨b,0,none⟩) n (aw 1 (n+1)),.int .i64 I,.slice (some ⟨vb,0,none⟩) 1 1] 0 [],0,[],h⟩ (fun e s'=>(e=.normal\/e=.ret)/\∃v,lk s'.env 6=some v/\dr v=true/\R v s'.h):=by
 have run:=fun {c:Code} {s:SS} {Q:Exit->SS->Prop} (hl:bD c=[]) (hr:bE c=[])=>qR.run hA.toAOK live mixed hF named Tryz.func90 wm (c:=c) hl hr (s:=s) (Q:=Q)
 have e1:ofNat 1=1:=aI hA 1;obtain⟨N,eN⟩:∃z:Int,z=n:=⟨_,rfl⟩;have e2:ofNat n=N:=by rw[eN];exact aI hA n
 obtain⟨q,eq⟩:∃z,z=n+1:=⟨_,rfl⟩;obtain⟨cq,H2⟩:∃z,z=aw 1 q:=⟨_,rfl⟩;rw[<-eq,<-H2];refine qR.seq (run rfl rfl (zc ?_));refine qR.seq (run rfl rfl (zc ?_));refine tB hA Ar (m:=q) H2 om om eI hi (fun c'=>?_);refine zc ?_;refine qR.seq (run rfl rfl (zc ?_));rw[e1];refine qR.seq (run rfl rfl (zc ?_));rw[show cmp .eql 1 0=false by rw[de hA];rfl];refine zc ?_;refine qR.seq (run rfl rfl (zc ?_));rw[e2];refine qR.seq (run rfl rfl (zc ?_));rw[show cmp .eql I N=false by rw[de hA];simp;omega];refine zc ?_;refine qR.U4 (env0:=[(0,.slice (some ⟨b,0,none⟩) n cq),(1,.int .i64 I),(2,.slice (some ⟨vb,0,none⟩) 1 1),(7,.int .i64 1),(8,.int .i64 N)]) (fun p hp=>?_) ?_
 ·simp only[List.mem_cons,List.not_mem_nil,or_false]at hp
  rcases hp with rfl|rfl|rfl|rfl|rfl<;>rfl
 refine qR.seq (qR.seq (qR.room (n:=n) (b:=b) (off:=0) (k:=cq) (by decide) rfl rfl rfl rfl rfl rfl rfl rfl rfl rfl rfl rfl rfl rfl rfl rfl rfl rfl rfl Ar.ye (by rw[eN];rfl) rfl rfl (fun p hp=>?_) hn (by rw[H2,cg (by unfold aR;omega)];omega) ?_))
 ·simp only[List.mem_cons,List.not_mem_nil,or_false]at hp
  rcases hp with rfl|rfl|rfl|rfl|rfl<;>simp
 refine run rfl rfl (zc ?_);refine run rfl rfl (zc ?_);have e3:arith .add .i64 N 1=q:=by rw[aF hA om om];omega
 rw[e3];obtain⟨qI,eqI⟩:∃z:Int,z=q:=⟨_,rfl⟩;rw[<-eqI];refine⟨by rw[Lz hA,H2,cg (by unfold aR;omega)];omega,?_⟩;refine zc ?_;rw[show nat qI=q by rw[Ho hA];omega];have e5:arith .add .i64 I 1=I+1:=aF hA om om;rw[e5];obtain⟨I1,eI1⟩:∃z:Int,z=I+1:=⟨_,rfl⟩;rw[<-eI1];refine tB hA Ar (n:=q) (m:=q) H2 om om (i:=i+1) om om (fun c2=>?_);rw[show 0+(i+1)*1=i+1 by omega,show q-(i+1)=n-i by omega];obtain⟨m2,QL⟩:∃z,z=n-i:=⟨_,rfl⟩;obtain⟨i1,MX⟩:∃z,z=i+1:=⟨_,rfl⟩;rw[<-QL,<-MX];refine zc ?_;have ov:F 108 [.slice (some ⟨vb,0,none⟩) 1 1,.slice (some ⟨b,i1,none⟩) m2 c2] h=some (.bool false,h):=by
  refine hov _ _ _ ?_;unfold jH;have q1:h.m.get vb=some (.live true 1 [v]):=hv;obtain⟨z,zs,hz⟩:∃z zs,cs++[.chan none]=z :: zs:=by
   cases cs with
   |nil=>exact⟨_,_,rfl⟩
   |cons z zs=>exact⟨_,_,rfl⟩
  have q2:h.m.get b=some (.live true 1 (z :: zs)):=by rw[<-hz];exact hm
  simp only[q1,q2];rw[Jk (fun e=>dX e.symm)];rfl
 refine hA.K9 ov ?_;refine⟨false,rfl,?_⟩;refine zc ?_;rw[show dH false=true by rw[bZ hA];rfl];refine zc ?_;rw[e5,<-eI1];refine tB hA Ar (n:=q) (m:=q) H2 om om (i:=i1) om om (fun c3=>?_);rw[show 0+i1*1=i1 by omega,show q-i1=m2 by omega];refine zc ?_;refine tB hA Ar (n:=q) (m:=q) H2 om om (i:=i) eI om (fun c4=>?_);obtain⟨m3,Xk⟩:∃z,z=q-i:=⟨_,rfl⟩;rw[show 0+i*1=i by omega,<-Xk];refine zc ?_;have al:∀l:List Value,(∀v∈l,v∈cs)->l.all aE=true:=fun l q=>by rw[List.all_eq_true]at fz ⊢;exact fun v hv=>fz v (q v hv)
 rw[Hp hA,jQ hA,nW hA];have XD:bW (h.aG 9).dK b 1 (cs++[.chan none]):=hm;have Kw:(cs++[Value.chan none]).length=n+1:=by simp[hl]
 obtain⟨h3,p1,p2,p3⟩:=tz (m:=m2) (c:=c3) (cp:=c4) (ns:=m3) (o:=i1) (k:=m2) (l:=cs.drop i) (a:=⟨b,i,none⟩) XD (by show min m3 m2=m2;omega) (by rw[XD.aM om,List.drop_append_of_le_length om,List.take_append_of_le_length (by simp;omega),List.take_of_length_le (by simp;omega)]) (by simp;omega) om (al _ (fun v hv=>List.mem_of_mem_drop hv));refine⟨_,h3,p1,?_⟩;obtain⟨k,ek⟩:∃z:Int,z=m2:=⟨_,rfl⟩;rw[<-ek];obtain⟨ys,XE⟩:∃z,z=(cs++[Value.chan none]).take i1++(cs.drop i++(cs++[Value.chan none]).drop (i1+m2)):=⟨_,rfl⟩;rw[<-XE]at p2;have yl:ys.length=n+1:=by rw[XE];simp;omega
 refine zc ?_;rw[fg hA];generalize XF:h3.az _=h4;have o4:bW h4 b 1 ys:=by rw[<-XF];exact p2
 have n4:h4.next=h.next+9:=by rw[<-XF];show h3.next=_;rw[p3.next];rfl
 have g4:∀k,k≠b->h4.m.get k=h.m.get k:=fun k hk=>by rw[<-XF];exact p3.get k hk
 have l4:b<=h4.low:=by
  rw[<-XF];show b<=Nat.min h.low h3.low;rw[p3.low];show b<=Nat.min h.low (Nat.min (h.next+9) b);exact Nat.le_min.2 ⟨om,Nat.le_min.2 ⟨om,Nat.le_refl _⟩⟩
 refine tB hA Ar (n:=q) (m:=q) H2 om om (i:=i) eI om (fun c5=>?_);rw[show 0+i*1=i by omega,<-Xk];refine zc ?_;rw[Hp hA];obtain⟨h5,r1,r2,r3⟩:=tz (m:=m3) (c:=c5) (cp:=1) (ns:=1) (o:=i) (k:=1) (l:=[v]) (a:=⟨vb,0,none⟩) o4 (by show min 1 m3=1;omega) ((hv.gH (g4 vb (fun e=>dX e.symm))).aM (o:=0) (n:=1) (by simp)) rfl om (by simp[Tb]);refine⟨_,h5,r1,?_⟩;refine zc ?_;refine⟨.inr trivial,_,rfl,rfl,?_⟩;rw[H2,eq];have ZQ:ys.take i=cs.take i:=by rw[XE,List.take_append_of_le_length (by simp;omega),List.take_take,Nat.min_eq_left om,List.take_append_of_le_length om]
 have hyd:ys.drop (i+1)=cs.drop i:=by
  have z1:(cs++[Value.chan none]).drop (i1+m2)=[]:=List.drop_eq_nil_of_le (by simp;omega);rw[XE,z1,List.append_nil,List.drop_append_of_le_length (by simp;omega),List.drop_eq_nil_of_le (by simp;omega),List.nil_append]
 rw[ZQ,hyd]at r2;refine hR h5 r2 (by rw[r3.next,n4];omega) (fun k hk=>by rw[r3.get k hk,g4 k hk]) ?_;rw[r3.low];exact Nat.le_min.2 ⟨l4,Nat.le_refl _⟩
end Go.Proofs.YtdpbiegfljmhmaaGreat
namespace Go.Proofs.YtdpbiegfljmhmaaGreat
open Go.cS
set_option maxRecDepth 100000
theorem JG:dx Tryz.prog rM:=z9 (Go.cS.sR Tryz.func103 (named _ _ Tryz.func103) (by kernel_rfl) (by kernel_rfl) (by kernel_rfl)) (z9 (Go.cS.mQ Tryz.func105 (named _ _ Tryz.func105) (by kernel_rfl) (by kernel_rfl) (by kernel_rfl)) Fs)
theorem Et:aW rM:=uW (uW A7)
theorem zL1(w:World):(Go.sizeOf 28).run Tryz.prog w=.ok 1 w:=b8 (by kernel_rfl)
theorem uD:dx Tryz.prog pM:=Dz JG (zC (tS:=22) (tR:=4) Tryz.func108 (named _ _ Tryz.func108) (by kernel_rfl) (by kernel_rfl) (by kernel_rfl) Ar.ye zL1)
theorem vl:aW pM:=yh yi Et
theorem tC(g:FuncId)(args:List Value)(h:af)(hg:own g=false):pM g args h=rM g args h:=by
 unfold own at hg;simp only[Bool.or_eq_false_iff]at hg;unfold pM pK;rw[hg.2];rfl
theorem Gw(args:List Value)(h:af)(r:Value)(h':af)(hc:jm args h=some (r,h'))(G:Nat->Option cS.Loc)(w:World)(aU:List Value)(hR:HR ⟨G,fun _=>none⟩ (im h) w)(hA:fF G args aU) :
  sH Tryz.prog 90 aU.toArray w (fun c w'=>∃G',VG G' r c/\Good ⟨G,fun _=>none⟩ (im h) w ⟨G',fun _=>none⟩ (im h') w'/\fD (h.next<=·) G G'):=by
 obtain⟨b,n,i,vb,cs,v,rfl,m1,m2,hl,hi,hd,Eg,dX,hn,rfl,rfl⟩:=nT hc;have hB:AP pM (bj Tryz.prog hint pM):=⟨⟨rfl,vl⟩,tC⟩;have ZR:∀v,zB v=true->aE v=true:=fun v hv=>by obtain⟨_,_,_,_,rfl⟩:=Ag hv;rfl
 have okc:cs.all aE=true:=by rw[List.all_eq_true]at hd ⊢;exact fun v hv=>ZR v (hd v hv)
 obtain⟨x1,l1,rfl,g1,T4⟩:=hA.head;obtain⟨x2,l2,rfl,g2,Zk⟩:=T4.head;obtain⟨x3,l3,rfl,g3,hA3⟩:=Zk.head;obtain rfl:l3=[]:=List.eq_nil_of_length_eq_zero hA3.1.symm;have vgs:∀{G':Nat->Option cS.Loc} {a:Value},(∀id L,G id=some L->G' id=some L)->VG G' a x1->fF G' [a,.int .i64 (Int.ofNat i),.slice (some ⟨vb,0,none⟩) 1 1] [x1,x2,x3]:=fun hm q=>⟨rfl,fun j u z hu hz=>by
  match j with
  |0=>simp at hu hz;subst hu;subst hz;exact q
  |1=>simp at hu hz;subst hu;subst hz;exact g2.mono hm
  |2=>simp at hu hz;subst hu;subst hz;exact g3.mono hm
  |j+3=>simp at hu⟩
 have TL:vb<h.next:=by
  rcases g3.dQ with ⟨_,L3,_,V7,_⟩|⟨_,⟨x,hx⟩,_⟩
  ·exact hR.cP _ _ V7
  ·cases hx
 obtain⟨L3,V7⟩:∃L3,G vb=some L3:=by
  rcases g3.dQ with ⟨_,L3,_,V7,_⟩|⟨_,⟨x,hx⟩,_⟩
  ·exact⟨L3,V7⟩
  ·cases hx
 rcases g1.dQ with ⟨_,L,c',hL,rfl,hk⟩|⟨_,⟨x,hx⟩,_⟩
 rotate_left
 ·cases hx
 have hL:G b=some L:=hL;have hb:b<h.next:=hR.cP _ _ hL;obtain⟨T5,ccs,ce,cf,k2,k3,k4⟩:=hR.cG b L _ hL m1;have hs:n<aR:=by unfold aR;omega
 obtain⟨hnc,Ip⟩:n<=c'/\L.o+c'<=L.zO:=by
  rcases hk with ⟨q,_⟩|⟨m,q1,_,q2,q3⟩
  ·exact absurd q (by unfold aw;omega)
  ·rw[T5]at q1 q3
   unfold aw at q1;have V8:L.o+0+c'*1<=L.zO:=q3;omega
 have Xc:∀u∈cs.take i++v :: cs.drop i,∃a len k L1,u=.slice (some a) len k/\a.spot=none/\G a.block=some L1:=by
  have one:∀u,zB u=true->(∃c,VG G u c)->∃a len k L1,u=.slice (some a) len k/\a.spot=none/\G a.block=some L1:=fun u hu ⟨c,hc⟩=>by
   obtain⟨bb,o,len,k,rfl⟩:=Ag hu;rcases hc.dQ with ⟨_,L1,_,JX,_⟩|⟨_,⟨x,hx⟩,_⟩
   ·exact⟨_,_,_,L1,rfl,rfl,JX⟩
   ·cases hx
  intro u hu;have:u∈cs\/u=v:=by
   rcases List.mem_append.1 hu with q|q
   ·exact .inl (List.mem_of_mem_take q)
   ·rcases List.mem_cons.1 q with q|q
    ·exact .inr q
    ·exact .inl (List.mem_of_mem_drop q)
  rcases this with q|rfl
  ·obtain⟨j,hj,rfl⟩:=List.getElem_of_mem q
   obtain⟨c,_,z⟩:=k3 j _ (List.getElem?_eq_getElem hj);exact one _ (List.all_eq_true.1 hd _ q) ⟨c,z⟩
  ·obtain⟨_,_,_,_,_,z3,_⟩:=hR.cG vb L3 _ V7 m2
   obtain⟨c,_,z⟩:=z3 0 u rfl;exact one _ Eg ⟨c,z⟩
 have fin:∀{G2:Nat->Option cS.Loc} {L2:cS.Loc} {c3:Nat},G2 h.next=some L2->L2.es=1->n+1<=c3->L2.o+c3<=L2.zO->VG G2 (.slice (some ⟨h.next,0,none⟩) (n+1) (aw 1 (n+1))) (.slice (some ⟨L2.b,L2.o+0,none⟩) (n+1) c3):=fun {G2 L2 c3} e1 e2 e3 e4=>by
  have:=VG.gR (g:=G2) ⟨h.next,0,none⟩ L2 (n+1) (n+1) c3 rfl e1 e3 (by unfold aR;omega) (by rw[e2];show L2.o+0+c3*1<=L2.zO;omega);rw[e2]at this;exact this
 by_cases gS:n+1<=c'
 ·
  obtain⟨hh,XG⟩:∃z,z=({ h with m:=h.m.set b (.live true 1 (cs++[.chan none])) }:af):=⟨_,rfl⟩;have TF:HR ⟨G,fun _=>none⟩ (im hh) w:=by rw[XG];exact hR.room hL m1 om
  have gk:∀k,k≠b->hh.m.get k=h.m.get k:=fun k hk=>by rw[XG];show(h.m.set b _).get k=_;rw[cQ.aS _ _ (fun e=>hk e.symm)]
  have nn:hh.next=h.next:=by rw[XG]
  have ob:bW hh.Lk b 1 (cs++[.chan none]):=by show hh.m.get b=_;rw[XG];show(h.m.set b _).get b=_;rw[cQ.gQ]
  have ov:bW hh.Lk vb 1 [v]:=(gk vb (fun e=>dX e.symm)).trans m2;have ZS:VG G (.slice (some ⟨b,0,none⟩) n (aw 1 (n+1))) (.slice (some ⟨L.b,L.o+0,none⟩) n c'):=by
   have:=VG.gR (g:=G) ⟨b,0,none⟩ L n (n+1) c' rfl hL gS (by unfold aR;omega) (by rw[T5];show L.o+0+c'*1<=L.zO;omega);rw[T5]at this;exact this
  have wn:=M8 hB uD (fun a b r q=>by unfold pM pK;rw[Nat.beq_refl];simp only[cond_true,q]) (h:=hh.Lk) rfl (I:=Int.ofNat i) rfl (by show b<hh.next;omega) ob hl (by show vb<hh.next;omega) dX ov hi hn okc (ZR v Eg)
   (R:=fun u AF=>u=.slice (some ⟨b,0,none⟩) (n+1) (aw 1 (n+1))/\bW AF b 1 (cs.take i++v :: cs.drop i)/\(∀k,k≠b->AF.m.get k=hh.m.get k)/\b<=AF.low) (fun AF q1 _ q2 q3=>⟨rfl,q1,q2,q3⟩)
  refine(qR.OO (P:=progU) (R:=fun u AF=>u=.slice (some ⟨b,0,none⟩) (n+1) (aw 1 (n+1))/\bW AF b 1 (cs.take i++v :: cs.drop i)/\(∀k,k≠b->AF.m.get k=hh.m.get k)/\b<=AF.low) Tryz.func90 wm (named _ _ Tryz.func90) rfl (Nat.le_refl _) wn (Ll TF) (vgs (fun _ _ q=>q) ZS)).mono (fun c w'=>?_);rintro⟨u,AF,G',⟨rfl,q1,q2,q3⟩,hv,hG,_⟩;obtain⟨G2,f1,f2,f3,f4⟩:=Good.QA hR hb hG (hG.mono _ _ hL) q1 (fun k L1 dm kb hk hm=>BR.back hG.mono (hR.cG k L1 dm hk hm) (hG.hr.cG k L1 dm (hG.mono _ _ hk) (by show AF.m.get k=_;rw[q2 k kb,gk k kb];exact hm)))
   (fun k L1 dm kb hk hm ha e=>kb (hR.dh k b L1 L dm _ hk hL hm m1 ha rfl e)) (.inr hL) (Nat.le_trans (Nat.min_le_right _ _) q3) Xc
  refine⟨G2,?_,f3,f4⟩;rcases hv.dQ with ⟨_,L2,c3,GZ,rfl,Kj⟩|⟨_,⟨x,hx⟩,_⟩
  rotate_left
  ·cases hx
  have e:G' b=some L:=hG.mono _ _ hL;have GZ:G' b=some L2:=GZ;rw[GZ]at e;obtain rfl:=Option.some.inj e;refine fin f1 T5 ?_ ?_
  ·rcases Kj with ⟨q,_⟩|⟨m,q1,_,q2,q3⟩
   ·exact absurd q (by unfold aw;omega)
   ·rw[T5]at q1;unfold aw at q1;omega
  ·rcases Kj with ⟨q,_⟩|⟨m,q1,_,q2,q3⟩
   ·exact absurd q (by unfold aw;omega)
   ·rw[T5]at q3
    have V8:L2.o+0+c3*1<=L2.zO:=q3;omega
 ·obtain rfl:c'=n:=om
  have ZS:VG G (.slice (some ⟨b,0,none⟩) c' c') (.slice (some ⟨L.b,L.o+0,none⟩) c' c'):=.gG _ L _ _ rfl hL hs;have wn:=M7 hB uD (h:=h.Lk) rfl (I:=Int.ofNat i) rfl hb m1 hl TL m2 hi hn okc (ZR v Eg)
   (R:=fun u AF=>∃b2,u=.slice (some ⟨b2,0,none⟩) (c'+1) (aw 1 (c'+1))/\bW AF b2 1 (cs.take i++v :: cs.drop i)/\h.next<=b2/\h.next<=AF.low) (fun b2 AF q1 q2 _ q3=>⟨b2,rfl,q1,q2,q3⟩)
  refine(qR.OO (P:=progU) (R:=fun u AF=>∃b2,u=.slice (some ⟨b2,0,none⟩) (c'+1) (aw 1 (c'+1))/\bW AF b2 1 (cs.take i++v :: cs.drop i)/\h.next<=b2/\h.next<=AF.low) Tryz.func90 wm (named _ _ Tryz.func90) rfl (Nat.le_refl _) wn (Ll hR) (vgs (fun _ _ q=>q) ZS)).mono (fun c w'=>?_);rintro⟨u,AF,G',⟨b2,rfl,q1,q2,q3⟩,hv,hG,_⟩;rcases hv.dQ with ⟨_,L2,c3,GZ,rfl,Kj⟩|⟨_,⟨x,hx⟩,_⟩
  rotate_left
  ·cases hx
  have GZ:G' b2=some L2:=GZ;obtain⟨Vv,_⟩:=hG.hr.cG b2 L2 _ GZ q1;have hGb:G b2=none:=by
   cases hx:G b2 with
   |none=>rfl
   |some L1=>have:b2<h.next:=hR.cP b2 L1 hx;omega
  have oI:w.heap.size<=L2.b:=by
   rcases hG.fresh b2 L2 GZ hGb with h1|⟨EB,L0,h1,h2,h3⟩
   ·exact h1
   ·have h4:EB<h.next:=hR.cP EB L0 h1
    have h5:AF.low<=EB:=h3;omega
  obtain⟨G2,f1,f2,f3,f4⟩:=Good.QA hR hb hG GZ q1 (fun k L1 dm kb hk hm=>by
   rw[hG.frame L1.b (hR.lt hk) (fun id L4 h0 _=>Nat.lt_of_lt_of_le (hR.cP id L4 h0) q3) (fun t L h=>by cases h)];exact hR.cG k L1 dm hk hm) (fun k L1 dm kb hk hm ha e=>by have:=hR.lt hk;omega) (.inl oI) (Nat.le_trans (Nat.min_le_right _ _) (by show b<=AF.low;omega)) Xc
  refine⟨G2,?_,f3,f4⟩;refine fin f1 Vv ?_ ?_
  ·rcases Kj with ⟨q,_⟩|⟨m,q1,_,q2,q3⟩
   ·exact absurd q (by unfold aw;omega)
   ·rw[Vv]at q1;unfold aw at q1;omega
  ·rcases Kj with ⟨q,_⟩|⟨m,q1,_,q2,q3⟩
   ·exact absurd q (by unfold aw;omega)
   ·rw[Vv]at q3
    have V8:L2.o+0+c3*1<=L2.zO:=q3;omega
theorem uw:dx Tryz.prog gI:=Dz uD Gw
theorem mo:aW gI:=yh Bp vl
theorem yM:aW u9:=zt mo
structure Hd where
 a:Option Addr
 n:Nat
 c:Nat
 deriving Inhabited
def Hd.cells(k:Hd):List Value:=[.slice k.a k.n k.c]
theorem gJ(k:Hd):k.cells.length=1:=rfl
theorem HL(k:Hd):k.cells.all aE=true:=rfl
structure qT{α:Type}[Inhabited α](enc:α->List Value)(es:Nat)(h:af)(a:Option Addr)(N:Nat)(hs:List Hd)(g:List (List α)):Prop where
 hd:Rows Hd.cells 1 h a N hs
 len:g.length=N
 row:∀y:Int,0<=y->y<N->Rows enc es h (gt hs y).a (gt hs y).n (gt g y)
theorem qT.ext{α:Type}[Inhabited α]{enc:α->List Value}{es:Nat}{h h':af}{a:Option Addr}{N:Nat}{hs:List Hd}{g:List (List α)}(t:qT enc es h a N hs g)(e:Ext h h'):qT enc es h' a N hs g:=⟨t.hd.ext e,t.len,fun y y0 y1=>(t.row y y0 y1).ext e⟩
theorem qT.uA{α:Type}[Inhabited α]{enc:α->List Value}{es:Nat}{h:af}{a:Option Addr}{N:Nat}{hs:List Hd}{g:List (List α)}(t:qT enc es h a N hs g){y:Int}(y0:0<=y)(y1:y<N):(gt g y).length=(gt hs y).n:=(t.row y y0 y1).len
def dA{α:Type}(cp:Nat)(bs:List Nat)(g:List (List α)):List Hd:=List.zipWith (fun b r=>⟨some ⟨b,0,none⟩,r.length,cp⟩) bs g
def kW{α:Type}(f:Nat->α)(n:Nat):List α:=(List.range n).map f
theorem bN{α:Type}(f:Nat->α)(n:Nat):(kW f n).length=n:=by unfold kW;simp
theorem jK{α:Type}(f:Nat->α){n i:Nat}(h:i<n):(kW f n)[i]?=some (f i):=by unfold kW;simp[h]
theorem jq{α:Type}[Inhabited α](f:Nat->α){n i:Nat}(h:i<n):gt (kW f n) (i:Int)=f i:=by
 unfold gt;rw[List.getD_eq_getElem?_getD,show((i:Int)).toNat=i from rfl,jK f h];rfl
theorem v7{α:Type}(f:Nat->α)(n i:Nat)(v:α):(kW f n).set i v=kW (fun j=>if j=i then v else f j) n:=by
 apply List.ext_getElem?;intro j;rw[List.getElem?_set,bN];by_cases c:j<n
 ·rw[jK _ c,jK _ c]
  by_cases e:i=j
  ·subst e;simp[c]
  ·rw[if_neg e,if_neg (fun q=>e q.symm)]
 ·have e1:(kW f n)[j]?=none:=List.getElem?_eq_none (by rw[bN];omega)
  have e2:(kW (fun j=>if j=i then v else f j) n)[j]?=none:=List.getElem?_eq_none (by rw[bN];omega);rw[e1,e2];split
  ·rw[if_neg om]
  ·rfl
theorem hO{α:Type}{f g:Nat->α}{n:Nat}(h:∀i,i<n->f i=g i):kW f n=kW g n:=by
 unfold kW;exact List.map_congr_left (fun i hi=>h i (List.mem_range.1 hi))
theorem tq{α:Type}(f:Nat->α)(n:Nat):kW f (n+1)=kW f n++[f n]:=by
 unfold kW;rw[List.range_succ,List.map_append];rfl
def Hx(a b i:Nat):Nat:=if i=a then b else if i=b then a else i
theorem vi(g:FuncId)(args:List Value)(h:af)(hg:own g=false):gI g args h=rM g args h:=by
 have vr:=hg;unfold own at hg;simp only[Bool.or_eq_false_iff]at hg;unfold gI pK;rw[hg.1.2];exact tC g args h vr
structure Fc where
 n:Int
 d:Int
 deriving Inhabited
def fC(x:Fc):List Value:=[.int .i64 x.n,.int .i64 x.d]
theorem B5(x:Fc):(fC x).length=2:=rfl
theorem Q7(x:Fc):(fC x).all aE=true:=rfl
def ct(x:Fc):Prop:=okF x.n x.d/\0<=x.n/\x.n<x.d
def Gj(g:List (List Int)):Prop:=4<g.length\/∃i:Int,0<=i/\i<g.length/\4<(gt g i).length
structure Good(g:List (List Int))(B:List Fc):Prop where
 m1:0<g.length
 n1:0<(gt g 0).length
 len:B.length=g.length
 row:∀i:Int,0<=i->i<g.length->(gt g i).length=(gt g 0).length
 SL:∀i:Int,0<=i->i<g.length->∀j:Int,0<=j->j<(gt g i).length->-9<=gt (gt g i) j/\gt (gt g i) j<=9
 turn:∀i:Int,0<=i->i<B.length->ct (gt B i)/\(gt B i).d<=60
def ju(g:List (List Int))(B:List Fc)(e:Int):Prop:=(Gj g/\e=4)\/(¬Gj g/\Good g B/\e=0)\/(¬Gj g/\¬Good g B/\e=8)
theorem ju.uniq{g:List (List Int)}{B:List Fc}{e e':Int}(h:ju g B e)(h':ju g B e'):e=e':=by
 rcases h with ⟨a,rfl⟩|⟨a,b,rfl⟩|⟨a,b,rfl⟩<;>rcases h' with ⟨c,rfl⟩|⟨c,d,rfl⟩|⟨c,d,rfl⟩
 all_goals first|rfl|(exfalso;first|exact a c|exact c a|exact b d|exact d b)
theorem ju.qP{g:List (List Int)}{B:List Fc}(h:ju g B 0):Good g B/\¬Gj g:=by
 rcases h with ⟨_,q⟩|⟨a,b,_⟩|⟨_,_,q⟩
 ·omega
 ·exact⟨b,a⟩
 ·omega
theorem qT.mG{α:Type}[Inhabited α]{enc:α->List Value}{es:Nat}{h:af}{a:Option Addr}{N:Nat}{hs:List Hd}{g:List (List α)}(t:qT enc es h a N hs g){i:Int}(i0:0<=i)(i1:i<N):∃b o,a=Option.some ⟨b,o,none⟩/\b<h.next/\h.aM ⟨b,o+i.toNat*1,none⟩ 1=Option.some [.slice (gt hs i).a (gt hs i).n (gt hs i).c]:=by
 obtain⟨b,o,e,l,q⟩:=t.hd.at i0 i1;exact⟨b,o,e,l,q 0 1 om om⟩
structure zb{α:Type}[Inhabited α](enc:α->List Value)(es:Nat)(h:af)(a:Option Addr)(N:Nat)(hs:List Hd)(g:List (List α)):Prop where
 hd:Rows Hd.cells 1 h a N hs
 len:g.length=N
 row:∀y:Int,0<=y->y<N->(gt g y).length=(gt hs y).n/\(0<(gt hs y).n->Rows enc es h (gt hs y).a (gt hs y).n (gt g y))
theorem zb.ext{α:Type}[Inhabited α]{enc:α->List Value}{es:Nat}{h h':af}{a:Option Addr}{N:Nat}{hs:List Hd}{g:List (List α)}(t:zb enc es h a N hs g)(e:Ext h h'):zb enc es h' a N hs g:=⟨t.hd.ext e,t.len,fun y y0 y1=>⟨(t.row y y0 y1).1,fun q=>((t.row y y0 y1).2 q).ext e⟩⟩
theorem zb.uA{α:Type}[Inhabited α]{enc:α->List Value}{es:Nat}{h:af}{a:Option Addr}{N:Nat}{hs:List Hd}{g:List (List α)}(t:zb enc es h a N hs g){y:Int}(y0:0<=y)(y1:y<N):(gt g y).length=(gt hs y).n:=(t.row y y0 y1).1
theorem zb.mG{α:Type}[Inhabited α]{enc:α->List Value}{es:Nat}{h:af}{a:Option Addr}{N:Nat}{hs:List Hd}{g:List (List α)}(t:zb enc es h a N hs g){i:Int}(i0:0<=i)(i1:i<N):∃b o,a=Option.some ⟨b,o,none⟩/\b<h.next/\h.aM ⟨b,o+i.toNat*1,none⟩ 1=Option.some [.slice (gt hs i).a (gt hs i).n (gt hs i).c]:=by
 obtain⟨b,o,e,l,q⟩:=t.hd.at i0 i1;exact⟨b,o,e,l,q 0 1 om om⟩
theorem zb.full{α:Type}[Inhabited α]{enc:α->List Value}{es:Nat}{h:af}{a:Option Addr}{N:Nat}{hs:List Hd}{g:List (List α)}(t:zb enc es h a N hs g)(p:∀y:Int,0<=y->y<N->0<(gt g y).length):qT enc es h a N hs g:=
 ⟨t.hd,t.len,fun y y0 y1=>(t.row y y0 y1).2 (by rw[<-t.uA y0 y1];exact p y y0 y1)⟩
theorem qT.V9{α:Type}[Inhabited α]{enc:α->List Value}{es:Nat}{h:af}{a:Option Addr}{N:Nat}{hs:List Hd}{g:List (List α)}(t:qT enc es h a N hs g):zb enc es h a N hs g:=
 ⟨t.hd,t.len,fun y y0 y1=>⟨(t.row y y0 y1).len,fun _=>t.row y y0 y1⟩⟩
section
variable{α:Type}[Inhabited α]{le:α->α->Prop}
def par(k:Int):Int:=(k-1) / 2
theorem B6{k r:Int}(h:par k=r)(k0:0<k):k=2*r+1\/k=2*r+2:=by unfold par at h;omega
theorem yN{k:Int}(k0:0<k):0<=par k/\par k<k:=by unfold par;omega
def mI(le:α->α->Prop)(L:List α)(f lo hi:Int):Prop:=∀k:Int,0<k->k<hi->lo<=par k->le (gt L (f+k)) (gt L (f+par k))
structure oF(le:α->α->Prop)(L:List α)(f lo hi r:Int):Prop where
 rest:∀k:Int,0<k->k<hi->lo<=par k->par k≠r->le (gt L (f+k)) (gt L (f+par k))
 over:∀k:Int,0<k->k<hi->par k=r->0<r->lo<=par r->le (gt L (f+k)) (gt L (f+par r))
theorem oF.start{L:List α}{f lo hi:Int}(l0:0<=lo)(h:mI le L f (lo+1) hi):oF le L f lo hi lo:=
 ⟨fun k k0 k1 k2 k3=>h k k0 k1 om,fun k k0 k1 k2 r0 k3=>by have:=yN r0;omega⟩
theorem oF.leaf{L:List α}{f lo hi r:Int}(h:oF le L f lo hi r)(hc:hi<=2*r+1):mI le L f lo hi:=fun k k0 k1 k2=>by
 by_cases e:par k=r
 ·have:=B6 e k0;omega
 ·exact h.rest k k0 k1 k2 e
theorem oF.stop(hp:J6 le){L:List α}{f lo hi r c:Int}(h:oF le L f lo hi r)(hc:∀k:Int,0<k->k<hi->par k=r->le (gt L (f+k)) (gt L (f+c)))(w:le (gt L (f+c)) (gt L (f+r))):mI le L f lo hi:=fun k k0 k1 k2=>by
 by_cases e:par k=r
 ·rw[e];exact hp.trans _ _ _ (hc k k0 k1 e) w
 ·exact h.rest k k0 k1 k2 e
theorem oF.step(hp:J6 le){L:List α}{f lo hi r c:Int}(f0:0<=f)(l0:0<=lo)(hl:f+hi<=L.length)(r0:lo<=r)(cr:c=2*r+1\/c=2*r+2)(c1:c<hi)(h:oF le L f lo hi r)(hc:∀k:Int,0<k->k<hi->par k=r->le (gt L (f+k)) (gt L (f+c)))(w:le (gt L (f+r)) (gt L (f+c))) :
  oF le (dB L (f+r) (f+c)) f lo hi c:=by
 have cp:par c=r:=by unfold par;omega
 have g:∀k:Int,0<=k->gt (dB L (f+r) (f+c)) (f+k)=if k=c then gt L (f+r)else if k=r then gt L (f+c)else gt L (f+k):=fun k k0=>by
  rw[jw L om om om om om];by_cases e1:k=c
  ·rw[if_pos om,if_pos e1]
  ·rw[if_neg om,if_neg e1]
   by_cases e2:k=r
   ·rw[if_pos om,if_pos e2]
   ·rw[if_neg om,if_neg e2]
 refine⟨fun k k0 k1 k2 k3=>?_,fun k k0 k1 k2 c0 k3=>?_⟩
 ·have pk:=yN k0
  rw[g k om,g (par k) om,if_neg k3];by_cases e:par k=r
  ·rw[if_pos e]
   by_cases e2:k=c
   ·rw[if_pos e2];exact w
   ·rw[if_neg e2,if_neg om]
    exact hc k k0 k1 e
  ·rw[if_neg e,if_neg (fun q=>e (by rw[q];exact cp))]
   by_cases e2:k=r
   ·subst e2
    rw[if_pos rfl];exact h.over c om c1 cp k0 k2
   ·rw[if_neg e2]
    exact h.rest k k0 k1 k2 e
 ·rw[g k om,g (par c) (by rw[cp];omega),cp]
  have:=yN k0;rw[if_neg om,if_neg om,if_neg om,if_pos rfl];have:=h.rest k k0 k1 om om;rw[k2]at this;exact this
theorem mI.top(hp:J6 le){L:List α}{f hi:Int}(h:mI le L f 0 hi):∀(n:Nat) (k:Int),k.toNat<=n->0<=k->k<hi->le (gt L (f+k)) (gt L (f+0)):=by
 intro n
 induction n with
 |zero=>intro k hk k0 k1;rw[show k=0 by omega];exact hp.refl _
 |succ n ih=>
  intro k hk k0 k1;by_cases e:k=0
  ·rw[e];exact hp.refl _
  ·have pk:=yN (k:=k) om
   exact hp.trans _ _ _ (h k om k1 pk.1) (ih (par k) om pk.1 om)
structure M9(le:α->α->Prop)(L:List α)(f i b:Int):Prop where
 heap:mI le L f 0 (i-f)
 up:aH le L i b
 AG:∀p q:Int,f<=p->p<i->i<=q->q<b->le (gt L p) (gt L q)
theorem M9.swap(hp:J6 le){L:List α}{f i b:Int}(f0:0<=f)(hl:b<=L.length)(h:M9 le L f (i+1) b)(i0:f<=i)(i1:i<b) :
  oF le (dB L f i) f 0 (i-f) 0/\aH le (dB L f i) i b/\∀p q:Int,f<=p->p<i->i<=q->q<b->le (gt (dB L f i) p) (gt (dB L f i) q):=by
 have g:∀k:Int,0<=k->gt (dB L f i) k=if k=i then gt L f else if k=f then gt L i else gt L k:=fun k k0=>jw L om om om om k0
 have top:∀p:Int,f<=p->p<i+1->le (gt L p) (gt L f):=fun p p0 p1=>by
  have:=h.heap.top hp (p-f).toNat (p-f) om om om;rw[show f+(p-f)=p by omega,Int.add_zero]at this;exact this
 refine⟨⟨fun k k0 k1 k2 k3=>?_,fun k k0 k1 k2 r0=>om⟩,fun p q p0 pq q1=>?_,fun p q p0 p1 q0 q1=>?_⟩
 ·have pk:=yN k0
  rw[g _ om,g _ om,if_neg om,if_neg om,if_neg om,if_neg om];exact h.heap k k0 om k2
 ·rw[g p om,g q om,if_neg (show ¬q=i by omega),if_neg (show ¬q=f by omega)]
  by_cases e:p=i
  ·rw[if_pos e];exact h.AG f q om om om q1
  ·rw[if_neg e,if_neg om]
   exact h.up p q om pq q1
 ·rw[g p om,g q om,if_neg (show ¬p=i by omega)]
  have XH:∀x,(∃k:Int,f<=k/\k<i+1/\x=gt L k)->le x (if q=i then gt L f else if q=f then gt L i else gt L q):=by
   rintro x ⟨k,k0,k1,rfl⟩;by_cases e:q=i
   ·rw[if_pos e];exact top k k0 k1
   ·rw[if_neg e,if_neg om]
    exact h.AG k q k0 k1 om q1
  by_cases e:p=f
  ·rw[if_pos e];exact XH _ ⟨i,i0,om,rfl⟩
  ·rw[if_neg e];exact XH _ ⟨p,p0,om,rfl⟩
theorem aJ.dG{L M:List α}{f i b:Int}(f0:0<=f)(h:aJ f i L M)(fi:f<=i)(up:aH le L i b)(AG:∀p q:Int,f<=p->p<i->i<=q->q<b->le (gt L p) (gt L q)) :
  aH le M i b/\∀p q:Int,f<=p->p<i->i<=q->q<b->le (gt M p) (gt M q):=by
 constructor
 ·intro p q p0 pq q1
  rw[h.out p om om,h.out q om om];exact up p q p0 pq q1
 ·intro p q p0 p1 q0 q1
  rw[h.out q om om];exact h.all (fun x=>le x (gt L q)) (fun k k0 k1=>AG k q k0 k1 q0 q1) p p0 p1
theorem aH.join{L:List α}{a m b:Int}(h1:aH le L a m)(h2:aH le L m b)(AG:∀p q:Int,a<=p->p<m->m<=q->q<b->le (gt L p) (gt L q)):aH le L a b:=by
 intro p q p0 pq q1;by_cases c1:q<m
 ·exact h1 p q p0 pq c1
 ·by_cases c2:p<m
  ·exact AG p q p0 c2 om q1
  ·exact h2 p q om pq q1
theorem aH.one{L:List α}{a b:Int}(h:b<=a+1):aH le L a b:=fun p q p0 pq q1=>om
end
section
variable{α:Type}[Inhabited α]{le:α->α->Prop}
structure Part(le:α->α->Prop)(L:List α)(a b i j:Int):Prop where
 i0:a<i
 j1:j<b
 ij:i<=j+1
 low:∀p:Int,a<p->p<i->le (gt L p) (gt L a)
 high:∀p:Int,j<p->p<b->le (gt L a) (gt L p)
theorem Part.start(L:List α){a b:Int}(h:a<b):Part le L a b (a+1) (b-1):=⟨om,om,om,fun p p0 p1=>om,fun p p0 p1=>om⟩
theorem Part.left{L:List α}{a b i j:Int}(h:Part le L a b i j)(c:i<=j)(w:le (gt L i) (gt L a)):Part le L a b (i+1) j:=
 ⟨by have:=h.i0;omega,h.j1,om,fun p p0 p1=>by
  by_cases e:p=i
  ·rw[e];exact w
  ·exact h.low p p0 om,h.high⟩
theorem Part.right{L:List α}{a b i j:Int}(h:Part le L a b i j)(c:i<=j)(w:le (gt L a) (gt L j)):Part le L a b i (j-1):=
 ⟨h.i0,by have:=h.j1;omega,om,h.low,fun p p0 p1=>by
  by_cases e:p=j
  ·rw[e];exact w
  ·exact h.high p om p1⟩
theorem Part.swap{L:List α}{a b i j:Int}(a0:0<=a)(hb:b<=L.length)(h:Part le L a b i j)(c:i<j)(w1:le (gt L a) (gt L i))(w2:le (gt L j) (gt L a)):Part le (dB L i j) a b (i+1) (j-1):=by
 have hi:=h.i0;have hj:=h.j1;have g:∀k:Int,0<=k->gt (dB L i j) k=if k=j then gt L i else if k=i then gt L j else gt L k:=fun k k0=>jw L om om om om k0
 refine⟨om,om,om,fun p p0 p1=>?_,fun p p0 p1=>?_⟩
 ·rw[g p om,g a a0,if_neg (show ¬p=j by omega),if_neg (show ¬a=j by omega),if_neg (show ¬a=i by omega)]
  by_cases e:p=i
  ·rw[if_pos e];exact w2
  ·rw[if_neg e];exact h.low p p0 om
 ·rw[g p om,g a a0,if_neg (show ¬a=j by omega),if_neg (show ¬a=i by omega)]
  by_cases e:p=j
  ·rw[if_pos e];exact w1
  ·rw[if_neg e,if_neg om];exact h.high p om p1
theorem Part.done{L:List α}{a b i j:Int}(a0:0<=a)(hb:b<=L.length)(h:Part le L a b i j)(c:j<i) :
  (∀p:Int,a<=p->p<j->le (gt (dB L j a) p) (gt (dB L j a) j))/\(∀p:Int,j<p->p<b->le (gt (dB L j a) j) (gt (dB L j a) p)):=by
 have hi:=h.i0;have hj:=h.j1;have ij:=h.ij;have g:∀k:Int,0<=k->gt (dB L j a) k=if k=a then gt L j else if k=j then gt L a else gt L k:=fun k k0=>jw L om om om om k0
 have gj:gt (dB L j a) j=gt L a:=by
  rw[g j om];by_cases e:j=a
  ·rw[if_pos e,e]
  ·rw[if_neg e,if_pos rfl]
 rw[gj];refine⟨fun p p0 p1=>?_,fun p p0 p1=>?_⟩
 ·rw[g p om]
  by_cases e:p=a
  ·rw[if_pos e];exact h.low j om om
  ·rw[if_neg e,if_neg om];exact h.low p om om
 ·rw[g p om,if_neg om,if_neg om]
  exact h.high p p0 p1
structure yO(le:α->α->Prop)(L:List α)(A B a b:Int):Prop where
 s1:aH le L A a
 s2:aH le L b B
 c1:∀p q:Int,A<=p->p<a->a<=q->q<B->le (gt L p) (gt L q)
 c2:∀p q:Int,A<=p->p<b->b<=q->q<B->le (gt L p) (gt L q)
 r0:A<=a
 r1:a<=b
 r2:b<=B
theorem yO.start(L:List α){A B:Int}(h:A<=B):yO le L A B A B:=⟨fun p q p0 pq q1=>om,fun p q p0 pq q1=>om,fun p q p0 p1 q0 q1=>om,fun p q p0 p1 q0 q1=>om,Int.le_refl _,h,Int.le_refl _⟩
theorem yO.perm{L M:List α}{A B a b:Int}(A0:0<=A)(h:yO le L A B a b)(k:aJ a b L M):yO le M A B a b:=by
 have r0:=h.r0;have r1:=h.r1;refine⟨fun p q p0 pq q1=>?_,fun p q p0 pq q1=>?_,fun p q p0 p1 q0 q1=>?_,fun p q p0 p1 q0 q1=>?_,h.r0,h.r1,h.r2⟩
 ·rw[k.out p om om,k.out q om om]
  exact h.s1 p q p0 pq q1
 ·rw[k.out p om om,k.out q om om]
  exact h.s2 p q p0 pq q1
 ·rw[k.out p om om]
  by_cases c:q<b
  ·exact k.all (fun x=>le (gt L p) x) (fun j j0 j1=>h.c1 p j p0 p1 j0 (by have:=h.r2;omega)) q q0 c
  ·rw[k.out q om om]
   exact h.c1 p q p0 p1 q0 q1
 ·rw[k.out q om om]
  by_cases c:a<=p
  ·exact k.all (fun x=>le x (gt L q)) (fun j j0 j1=>h.c2 j q om j1 q0 q1) p c p1
  ·rw[k.out p om om]
   exact h.c2 p q p0 p1 q0 q1
theorem yO.done{L:List α}{A B a b:Int}(h:yO le L A B a b)(s:aH le L a b):aH le L A B:=by
 have r2:=h.r2;refine aH.join (aH.join h.s1 s (fun p q p0 p1 q0 q1=>h.c1 p q p0 p1 q0 om)) h.s2 (fun p q p0 p1 q0 q1=>h.c2 p q p0 p1 q0 q1)
theorem yO.left(hp:J6 le){L M:List α}{A B a b m:Int}(A0:0<=A)(h:yO le L A B a b)(am:a<=m)(mb:m<b)(h1:∀p:Int,a<=p->p<m->le (gt L p) (gt L m))(h2:∀p:Int,m<p->p<b->le (gt L m) (gt L p))(k:aJ a m L M)(s:aH le M a m):yO le M A B (m+1) b:=by
 have r0:=h.r0;have r2:=h.r2;have kw:=k.wide (a:=a) (b:=b) om om om;have hM:=h.perm A0 kw;have m1:∀p:Int,a<=p->p<m->le (gt M p) (gt M m):=fun p p0 p1=>by
  rw[k.out m om om];exact k.all (fun x=>le x (gt L m)) (fun j j0 j1=>h1 j j0 j1) p p0 p1
 have m2:∀q:Int,m<q->q<B->le (gt M m) (gt M q):=fun q q0 q1=>by
  by_cases c:q<b
  ·rw[k.out m om om,k.out q om om]
   exact h2 q q0 c
  ·exact hM.c2 m q om mb om q1
 refine⟨?_,hM.s2,fun p q p0 p1 q0 q1=>?_,hM.c2,om,om,h.r2⟩
 ·refine aH.join (m:=a) hM.s1 (aH.join (m:=m) s (aH.one om) (fun p q p0 p1 q0 q1=>?_)) (fun p q p0 p1 q0 q1=>hM.c1 p q p0 p1 q0 om)
  rw[show q=m by omega];exact m1 p p0 p1
 ·by_cases c:p<a
  ·exact hM.c1 p q p0 c om q1
  ·by_cases e:p=m
   ·rw[e];exact m2 q om q1
   ·exact hp.trans _ _ _ (m1 p om om) (m2 q om q1)
theorem yO.right(hp:J6 le){L M:List α}{A B a b m:Int}(A0:0<=A)(h:yO le L A B a b)(am:a<=m)(mb:m<b)(h1:∀p:Int,a<=p->p<m->le (gt L p) (gt L m))(h2:∀p:Int,m<p->p<b->le (gt L m) (gt L p))(k:aJ (m+1) b L M)(s:aH le M (m+1) b):yO le M A B a m:=by
 have r0:=h.r0;have r2:=h.r2;have kw:=k.wide (a:=a) (b:=b) om om om;have hM:=h.perm A0 kw;have m2:∀q:Int,m<q->q<b->le (gt M m) (gt M q):=fun q q0 q1=>by
  rw[k.out m om om];exact k.all (fun x=>le (gt L m) x) (fun j j0 j1=>h2 j om j1) q om q1
 have m1:∀p:Int,A<=p->p<m->le (gt M p) (gt M m):=fun p p0 p1=>by
  by_cases c:a<=p
  ·rw[k.out m om om,k.out p om om]
   exact h1 p c p1
  ·exact hM.c1 p m p0 om am om
 have c3:∀p q:Int,A<=p->p<=m->m<q->q<B->le (gt M p) (gt M q):=fun p q p0 p1 q0 q1=>by
  by_cases c:q<b
  ·by_cases e:p=m
   ·rw[e];exact m2 q q0 c
   ·exact hp.trans _ _ _ (m1 p p0 om) (m2 q q0 c)
  ·exact hM.c2 p q p0 om om q1
 refine⟨hM.s1,?_,hM.c1,fun p q p0 p1 q0 q1=>?_,om,om,om⟩
 ·refine aH.join (m:=m+1) (aH.one om) (aH.join (m:=b) s hM.s2 (fun p q p0 p1 q0 q1=>hM.c2 p q om p1 q0 q1)) (fun p q p0 p1 q0 q1=>?_)
  exact c3 p q om om om q1
 ·by_cases e:q=m
  ·rw[e];exact m1 p p0 p1
  ·exact c3 p q p0 om om q1
theorem yO.equal{L:List α}{A B a b m:Int}(h:yO le L A B a b)(am:a<=m)(mb:m<=b)(e:∀p q:Int,a<=p->p<m->a<=q->q<b->le (gt L p) (gt L q)):yO le L A B m b:=by
 have r0:=h.r0;have r2:=h.r2;refine⟨aH.join (m:=a) h.s1 (fun p q p0 pq q1=>e p q p0 om om om) (fun p q p0 p1 q0 q1=>h.c1 p q p0 p1 q0 om),h.s2,fun p q p0 p1 q0 q1=>?_,h.c2,om,om,h.r2⟩;by_cases c:p<a
 ·exact h.c1 p q p0 c om q1
 ·by_cases d:q<b
  ·exact e p q om p1 om d
  ·exact h.c2 p q p0 om om q1
end
def fP:List Int->List Int->Int
 | [],[]=>0
 | [],_ :: _=>-1
 |_ :: _,[]=>1
 |a :: x,b :: y=>if a<b then -1 else if b<a then 1 else fP x y
theorem p8:∀x y:List Int,fP y x=-fP x y
 | [],[]=>rfl
 | [],_ :: _=>rfl
 |_ :: _,[]=>rfl
 |a :: x,b :: y=>by
  have:=p8 x y;unfold fP;by_cases c:a<b
  ·rw[if_neg om,if_pos c,if_pos c];rfl
  ·by_cases d:b<a
   ·rw[if_pos d,if_neg c,if_pos d]
   ·rw[if_neg d,if_neg c,if_neg c,if_neg d];exact this
theorem JH(x:List Int):fP x x=0:=by have:=p8 x x;omega
theorem H3:∀{x y:List Int},fP x y=0->x=y
 | [],[],_=>rfl
 | [],_ :: _,h=>by simp[fP]at h
 |_ :: _,[],h=>by simp[fP]at h
 |a :: x,b :: y,h=>by
  unfold fP at h;by_cases c:a<b
  ·rw[if_pos c]at h;omega
  ·by_cases d:b<a
   ·rw[if_neg c,if_pos d]at h;omega
   ·rw[if_neg c,if_neg d]at h
    rw[show a=b by omega,H3 h]
theorem yP:∀{x y z:List Int},fP x y<=0->fP y z<=0->fP x z<=0
 | [],[],[],_,_=>by simp[fP]
 | [],[],_ :: _,_,_=>by simp[fP]
 | [],_ :: _,[],_,_=>by simp[fP]
 | [],_ :: _,_ :: _,_,_=>by simp[fP]
 |_ :: _,[],_,h,_=>by simp[fP]at h
 |_ :: _,_ :: _,[],_,h=>by simp[fP]at h
 |a :: x,b :: y,c :: z,h,k=>by
  unfold fP at h k ⊢;by_cases c1:a<b
  ·by_cases c2:b<c
   ·rw[if_pos (show a<c by omega)];omega
   ·by_cases c3:c<b
    ·rw[if_neg c2,if_pos c3]at k;omega
    ·rw[if_pos (show a<c by omega)];omega
  ·by_cases c4:b<a
   ·rw[if_neg c1,if_pos c4]at h;omega
   ·rw[if_neg c1,if_neg c4]at h
    by_cases c2:b<c
    ·rw[if_pos (show a<c by omega)];omega
    ·by_cases c3:c<b
     ·rw[if_neg c2,if_pos c3]at k;omega
     ·rw[if_neg c2,if_neg c3]at k
      rw[if_neg om,if_neg om];exact yP h k
namespace LL
def lt(x y:List Int):Prop:=fP x y<0
def le(x y:List Int):Prop:=¬lt y x
theorem not_lt{x y:List Int}:¬lt x y↔le y x:=Iff.rfl
theorem not_le{x y:List Int}:¬le x y↔lt y x:=by unfold le;exact Classical.not_not
theorem le_iff{x y:List Int}:le x y↔fP x y<=0:=by unfold le lt;rw[p8];omega
theorem le_refl{x:List Int}:le x x:=by rw[le_iff,JH];omega
theorem le_trans{x y z:List Int}(h:le x y)(k:le y z):le x z:=le_iff.2 (yP (le_iff.1 h) (le_iff.1 k))
theorem le_total{x y:List Int}:le x y\/le y x:=by rw[le_iff,le_iff,p8 x y];omega
theorem le_of_lt{x y:List Int}(h:lt x y):le x y:=by rw[le_iff];unfold lt at h;omega
theorem le_antisymm{x y:List Int}(h:le x y)(k:le y x):x=y:=by
 rw[le_iff]at h k;rw[p8]at k;exact H3 om
end LL
theorem cO{x y:List Int}:fP x y<0↔LL.lt x y:=Iff.rfl
structure LE where
 hd:Hd
 row:List Int
instance:Inhabited LE:=⟨⟨⟨none,0,0⟩,[]⟩⟩
def LE.cells(x:LE):List Value:=[.slice x.hd.a x.hd.n x.hd.c]
theorem Gx(x:LE):x.cells.length=1:=rfl
def LE.q(x:LE):List Int:=x.row
def gD(x y:LE):Prop:=LL.le x.q y.q
theorem dN:J6 gD:=⟨fun x=>LL.le_refl,fun x y z=>LL.le_trans,fun x y=>by unfold gD;exact LL.le_total⟩
def lC(x:Int):List Value:=[.int .i64 x]
def LR(h:af)(a:Option Addr)(n:Nat)(q:List Int):Prop:=Rows lC 1 h a n q/\n<=100000
theorem LR.ext{h h':af}{a:Option Addr}{n:Nat}{q:List Int}(t:LR h a n q)(e:Ext h h'):LR h' a n q:=⟨t.1.ext e,t.2⟩
def LE.OK(h:af)(x:LE):Prop:=LR h x.hd.a x.hd.n x.row
structure bq(h0 h:af)(b n:Nat)(L:List LE):Prop where
 ext:Ext h0 h
 own:bW h b 1 (L.flatMap LE.cells)
 cJ:h0.next<=b
 lt:b<h.next
 len:L.length=n
 base:h0.low<=h0.next
 ok:∀i:Int,0<=i->i<n->(gt L i).OK h0
 gn:n<=100000
theorem bq.more{h0 h h':af}{b n:Nat}{L:List LE}(t:bq h0 h b n L)(e:Ext h h'):bq h0 h' b n L:=
 ⟨t.ext.trans e,t.own.ext e t.lt,t.cJ,Nat.lt_of_lt_of_le t.lt e.next,t.len,t.base,t.ok,t.gn⟩
theorem bq.read{h0 h:af}{b n:Nat}{L:List LE}(t:bq h0 h b n L){i:Int}(i0:0<=i)(i1:i<n):∃a m c y,gt L i=⟨⟨a,m,c⟩,y⟩/\LR h a m (gt L i).q/\h.aM ⟨b,0+i.toNat*1,none⟩ 1=some [.slice a m c]:=by
 have r:Rows LE.cells 1 h (some ⟨b,0,none⟩) L.length L:=bW.rows t.own Gx om t.lt;obtain⟨b',o',e,_,h3⟩:=r.at i0 (by rw[t.len];exact i1);cases e;exact⟨(gt L i).hd.a,(gt L i).hd.n,(gt L i).hd.c,(gt L i).row,rfl,(t.ok i i0 i1).ext t.ext,h3 0 1 om om⟩
theorem bq.put{h0 h:af}{b n:Nat}{L:List LE}(t:bq h0 h b n L){i:Int}(i0:0<=i)(i1:i<n){x:LE}(hx:x.OK h0):∃h',h.write b (i.toNat*1) x.cells=some h'/\bq h0 h' b n (L.set i.toNat x)/\j7 h h' b:=by
 obtain⟨h',w1,w2,w3⟩:=bW.setRow t.own Gx (i:=i.toNat) (by have:=t.len;omega) x;refine⟨h',w1,⟨w3.ext t.ext t.cJ,w2,t.cJ,by rw[w3.next];exact t.lt,by rw[List.length_set];exact t.len,t.base,fun j j0 j1=>?_,t.gn⟩,w3⟩;rw[B3 L i0 j0 (by have:=t.len;omega)];split
 ·exact hx
 ·exact t.ok j j0 j1
theorem wo:∀(x y:List Int) (k:Nat),(∀j:Int,0<=j->j<k->gt x j=gt y j)->k<=x.length->k<=y.length->fP x y=fP (x.drop k) (y.drop k)
 |_,_,0,_,_,_=>rfl
 | [],_,k+1,_,h,_=>by simp at h
 |_ :: _,[],k+1,_,_,h=>by simp at h
 |a :: x,b :: y,k+1,e,h1,h2=>by
  have e0:a=b:=e 0 om om;have ih:=wo x y k (fun j j0 j1=>by
   have:=e (j+1) om om;unfold gt at this ⊢;rw[show(j+1).toNat=j.toNat+1 by omega]at this;exact this) (by simpa using h1) (by simpa using h2)
  subst e0;show(if a<a then -1 else if a<a then 1 else fP x y)=_;rw[if_neg om,if_neg om,ih];rfl
theorem wq{x:List Int}{k:Int}(k0:0<=k)(h:k<x.length):∃r,x.drop k.toNat=gt x k :: r:=by
 refine⟨x.drop (k.toNat+1),?_⟩;rw[List.drop_eq_getElem_cons om];unfold gt;rw[List.getD_eq_getElem?_getD,List.getElem?_eq_getElem om];rfl
variable{F:aZ}{call head arith cmp xF dH jz conv neg imax uf ofNat Fy place G6 nz KY rd wr push next vz nat iK IJ rj cut Ba IK mS part app OA putAt fresh az aG wrote bX lt ne jX xG rH yn uh IL Fz IM bytes Tx:_}(hA:AP F ⟨call,head,arith,cmp,xF,dH,jz,conv,neg,imax,uf,ofNat,Fy,place,G6,nz,KY,rd,wr,push,next,vz,nat,iK,IJ,rj,cut,Ba,IK,mS,part,app,OA,putAt,fresh,az,aG,wrote,bX,lt,ne,jX,xG,rH,yn,uh,IL,Fz,IM,bytes,Tx⟩)
include hA
theorem we{t e es:Nat}(hT:fZ Tryz.prog t e es){α:Type}{enc:α->List Value}(he:∀x,(enc x).length=es)(KO:0<es)(fz:∀x,(enc x).all aE=true){h:af}{a:Option Addr}{n c:Nat}{l:List α}{v:α}(hp:oD h es a n c (l.flatMap enc))(hn:n<=100000){C:Option Addr->Nat->Nat->af->Prop}
  (hC:∀b' h',oD h' es (some ⟨b',0,none⟩) (n+1) (aw es (n+1)) ((l++[v]).flatMap enc)->(∀h0,Ext h0 h->ky h0.next a->Ext h0 h')->h.next<h'.next->h.next<b'->(∀i,i<h.next->(∀ad,a=some ad->ad.block≠i)->h'.m.get i=h.m.get i)->C (some ⟨b',0,none⟩) (n+1) (aw es (n+1)) h') :
  app [t,t] [.slice a n c,.slice (some ⟨next h,0,none⟩) 1 1] (push h es (enc v)) C:=by
 rw[vd hA,df hA,cM hA];have hs:Cells (h.push es (enc v)) (some ⟨h.next,0,none⟩) 1 es (enc v):=⟨rfl,by simp[af.push],by rw[(bW.push h es _).aM (by rw[he];omega),List.drop_zero,List.take_of_length_le (by rw[he];omega)]⟩;obtain⟨a',c',h',h1,h2,h3,h4,h5,h6⟩:=u7 hT hT.ye (c2:=1) (hp.ext (.push h es (enc v))) hs (pW fz l) (fz v) om om;rcases h2 with ⟨_,w,_⟩|⟨b',rfl,rfl,w1,w2,w3⟩
 ·omega
 have nx:(h.push es (enc v)).next=h.next+1:=rfl;refine⟨_,n+1,_,h',h1,hC b' h' (.inr ⟨b',rfl,rfl,w1,by rw[gi he];simp only[List.length_append,List.length_cons,List.length_nil];have:=hp.cells.length;rw[gi he]at this;rw[Nat.eq_of_mul_eq_mul_right KO this],?_⟩) (fun h0 e0 f0=>(h3 h0 (e0.trans (.push _ _ _)) f0).1) om (by have:=h5 _ rfl;simp only at this;omega) (fun i hi ha=>?_)⟩
 ·simpa using w3
 ·rw[h6 i om ha]
  exact(Ext.push h es (enc v)).get i hi
theorem SW{h h':af}{b dD:Nat}(hw:wrote h h'=false)(hb:b<dD):jX false (wrote h h') false b dD:=by
 rw[Bz hA];exact⟨rfl,hw,.inr hb⟩
theorem HO{h:af}(aq:h.low<=h.next){x:Fc}(hn:i64 x.n)(hd:i64 x.d){Q:Value->af->Prop}(hQ:∀b h',(b=true↔ct x)->Ext h h'->Q (.bool b) h'):call 38 [.agg #[.int .i64 x.n,.int .i64 x.d]] h Q:=by
 obtain⟨n,d⟩:=x;simp only at hn hd;refine hA.aN Tryz.func38 x38.2 (hA.alike _ _ _ rfl) aq (zc ?_);refine pU hA aq hn hd (fun e h' k x1=>?_);refine⟨e,rfl,?_⟩;refine zq ?_;refine br (e=0) (by rw[de hA]) (fun c=>?_) (fun c=>?_)<;>refine zc ?_
 rotate_left
 ·refine zq ?_
  refine hQ false h' ⟨(fun q=>by cases q),fun q=>?_⟩ x1;rcases k with ⟨k,_⟩|⟨_,k⟩
  ·exact absurd k c
  ·exact absurd q.1 k
 have ok:okF n d:=by rcases k with ⟨_,k⟩|⟨k,_⟩;exact k;omega
 refine zq ?_;refine br (0<=n) (by rw[bY hA]) (fun c2=>?_) (fun c2=>?_)<;>refine zc ?_
 rotate_left
 ·refine zq ?_
  exact hQ false h' ⟨(fun q=>by cases q),fun q=>absurd q.2.1 c2⟩ x1
 refine zq ?_;rw[aA hA];exact hQ _ h' ⟨fun q=>⟨ok,c2,of_decide_eq_true q⟩,fun q=>decide_eq_true q.2.2⟩ x1
theorem dC{h:af}{a:Option Addr}{n:Nat}{q:List Int}(t:LR h a n q):LR (fresh h) a n q:=t.ext (hH hA h)
theorem cY{h0 h:af}{b n:Nat}{L:List LE}(t:bq h0 h b n L){i j:Int}(i0:0<=i)(i1:i<n)(j0:0<=j)(j1:j<n){ax ay:Option Addr}{nx cx ny cy:Nat}{x2 y2:List Int}(g1:gt L i=⟨⟨ax,nx,cx⟩,x2⟩)(g2:gt L j=⟨⟨ay,ny,cy⟩,y2⟩) :
  ∃h1 h2,wr h b (place 0 i 1) [.slice ay ny cy] h1/\wr h1 b (place 0 j 1) [.slice ax nx cx] h2/\bq h0 h2 b n (dB L i j):=by
 have o1:=t.ok i i0 i1;have o2:=t.ok j j0 j1;rw[g1]at o1;rw[g2]at o2;obtain⟨h1,w1,t1,_⟩:=t.put i0 i1 (x:=⟨⟨ay,ny,cy⟩,y2⟩) o2;obtain⟨h2,w2,t2,_⟩:=t1.put j0 j1 (x:=⟨⟨ax,nx,cx⟩,x2⟩) o1;refine⟨h1,h2,yk hA (by rw[Nat.zero_add];exact w1),yk hA (by rw[Nat.zero_add];exact w2),?_⟩;unfold dB;rw[g1,g2];exact t2
theorem dF{h0 h h':af}(aq:h0.low<=h0.next){b n:Nat}{L:List LE}(t:bq h0 h b n L)(x:Ext (fresh h) h'):bq h0 (az h h') b n L:=
 t.more (cI hA (t.ext.aC aq) (.refl h) x)
theorem PK{h:af}(aq:h.low<=h.next){x y:Int}{Q:Value->af->Prop}(hQ:∀c:Int,c=(if x<y then -1 else if y<x then 1 else 0)->Q (.int .i64 c) h):call 76 [.int .i64 x,.int .i64 y] h Q:=by
 have nan:∀{z:Int} {R:Value->af->Prop},R (.bool false) h->call 101 [.int .i64 z] h R:=fun {z R} hR=>by
  refine hA.aN Tryz.func101 x101.2 (hA.alike _ _ _ rfl) aq (zc ?_);rw[show cmp .neq z z=false by rw[bT hA];simp];exact hR
 refine hA.aN Tryz.func76 x76.2 (hA.alike _ _ _ rfl) aq (zc ?_);refine nan ⟨_,rfl,?_⟩;refine zq ?_;refine nan ⟨_,rfl,?_⟩;refine zq ?_;refine br (x<y) (by rw[aA hA]) (fun c=>?_) (fun c=>?_)<;>refine zc ?_
 ·refine zq ?_
  exact hQ _ (by rw[if_pos c])
 refine zq ?_;refine br (y<x) (by rw[dc hA]) (fun d=>?_) (fun d=>?_)<;>refine zc ?_
 ·refine zq ?_
  exact hQ _ (by rw[if_neg c,if_pos d])
 refine zq ?_;exact hQ _ (by rw[if_neg c,if_neg d])
theorem Tc{h:af}(aq:h.low<=h.next){a a':Option Addr}{n n' c c':Nat}{p q:List Int}(hp:LR h a n p)(hq:LR h a' n' q){N Z:Int}(eN:N=n)(eZ:Z=fP p q){Q:Exit->SS->Prop}
  (fO:∀env,Q .ret ⟨(4,.int .i64 Z) :: env,0,[],h⟩)
  (cW:fP p q=(if n<n' then -1 else 0)->Q (.exit 0) ⟨[(0,.slice a n c),(1,.slice a' n' c')],0,[],h⟩) :
  ∀(d k:Nat) (I:Int),n-k<=d->k<=n->k<=n'->I=k->(∀j:Int,0<=j->j<k->gt p j=gt q j)->
   head 51 2 0 ⟨[(0,.slice a n c),(1,.slice a' n' c'),(9,.slice a n c),(10,.int .i64 N),(11,.int .i64 I)],0,[],h⟩ Q:=by
 have lp:p.length=n:=hp.1.len;have lq:q.length=n':=hq.1.len;have np:=hp.2;have nq:=hq.2;have fin:∀k:Nat,n=k->k<=n'->(∀j:Int,0<=j->j<k->gt p j=gt q j)->fP p q=(if n<n' then -1 else 0):=fun k e hk hs=>by
  rw[wo p q k hs om om,List.drop_eq_nil_of_le om];by_cases w:n<n'
  ·obtain⟨r,e⟩:=wq (x:=q) (k:=k) om om
   rw[Int.toNat_natCast]at e;rw[e,if_pos w];rfl
  ·rw[List.drop_eq_nil_of_le om,if_neg w];rfl
 refine oG (fun d ih=>?_);intro k I hd hk D6 eI hs;by_cases ci:k<n
 rotate_left
 ·refine hA.ar Tryz.func51 x51.2 (zc ?_)
  refine br (I<N) (by rw[aA hA]) (fun q=>om) (fun _=>?_)<;>refine zc ?_;exact cW (fin k om D6 hs)
 obtain⟨d,rfl⟩:∃k,d=k+1:=⟨d-1,om⟩
 replace ih:=ih d rfl
 obtain⟨b,o,rfl,_,q1⟩:=hp.1.at (i:=I) om om;have q2:=q1 0 1 om om;obtain⟨x,ex⟩:∃z,z=gt p I:=⟨_,rfl⟩;rw[<-ex]at q2;have r1:rd h b (place o I 1) 1 [.int .i64 x]:=aD hA q2;obtain⟨M,eM⟩:∃z:Int,z=n':=⟨_,rfl⟩;have e1:ofNat n'=M:=by rw[eM];exact aI hA n'
 refine hA.ar Tryz.func51 x51.2 (zc ?_);refine br (I<N) (by rw[aA hA]) (fun _=>?_) (fun q=>om)<;>refine zc ?_
 (refine zq ?_;repeat ((first|rw[e1]);refine zq ?_))
 refine br (M<=I) (by rw[bY hA]) (fun c4=>?_) (fun c4=>?_)<;>refine zc ?_
 ·refine zq ?_
  have e:fP p q=1:=by
   rw[wo p q k hs om om,show q.drop k=[]from List.drop_eq_nil_of_le om];obtain⟨r,e⟩:=wq (x:=p) (k:=k) om om;rw[Int.toNat_natCast]at e;rw[e];rfl
  have:=fO [];rw[eZ,e]at this;exact this
 obtain⟨b',o',rfl,_,q3⟩:=hq.1.at (i:=I) om om;have q4:=q3 0 1 om om;obtain⟨y,ey⟩:∃z,z=gt q I:=⟨_,rfl⟩;rw[<-ey]at q4;have r2:rd h b' (place o' I 1) 1 [.int .i64 y]:=aD hA q4;refine zq ?_;refine PK hA aq (fun u hu=>⟨_,rfl,?_⟩);refine zq ?_;have e:fP p q=if x<y then -1 else if y<x then 1 else fP (p.drop (k+1)) (q.drop (k+1)):=by
  rw[wo p q k hs om om];obtain⟨r1,e1⟩:=wq (x:=p) (k:=k) om om;obtain⟨r2,e2⟩:=wq (x:=q) (k:=k) om om;rw[Int.toNat_natCast,<-eI,<-ex]at e1;rw[Int.toNat_natCast,<-eI,<-ey]at e2;rw[<-List.drop_drop (l:=p),<-List.drop_drop (l:=q),e1,e2];rfl
 refine br (u≠0) (by rw[bT hA]) (fun c5=>?_) (fun c5=>?_)<;>refine zc ?_
 ·refine zq ?_
  have:=fO [(29,.int .i64 u),(8,.int .i64 u)];rw[eZ,e]at this;rw[hu]at c5 this ⊢;by_cases w:x<y
  ·simp only[if_pos w]at this ⊢;exact this
  ·simp only[if_neg w]at this c5 ⊢
   by_cases w2:y<x
   ·simp only[if_pos w2]at this ⊢;exact this
   ·rw[if_neg w2]at c5;exact absurd rfl c5
 have exy:x=y:=by
  rw[hu]at c5;by_cases w:x<y
  ·rw[if_pos w]at c5;omega
  ·rw[if_neg w]at c5
   by_cases w2:y<x
   ·rw[if_pos w2]at c5;omega
   ·omega
 refine zq ?_;rw[aF hA om om];exact ih (k+1) (I+1) om om om om (fun j j0 j1=>by
  by_cases e:j=I
  ·rw[e,<-ex,<-ey];exact exy
  ·exact hs j j0 om)
theorem fx{h:af}(aq:h.low<=h.next){a a':Option Addr}{n n' c c':Nat}{p q:List Int}(hp:LR h a n p)(hq:LR h a' n' q){Q:Value->af->Prop}
  (hQ:∀(u:Int) h',u=fP p q->Ext h h'->Q (.int .i64 u) h'):call 51 [.slice a n c,.slice a' n' c'] h Q:=by
 have lp:p.length=n:=hp.1.len;have lq:q.length=n':=hq.1.len;have np:=hp.2;have nq:=hq.2;obtain⟨N,eN⟩:∃z:Int,z=n:=⟨_,rfl⟩;have e1:ofNat n=N:=by rw[eN];exact aI hA n
 obtain⟨M,eM⟩:∃z:Int,z=n':=⟨_,rfl⟩;have e2:ofNat n'=M:=by rw[eM];exact aI hA n'
 obtain⟨Z,eZ⟩:∃z:Int,z=fP p q:=⟨_,rfl⟩;refine hA.aN Tryz.func51 x51.2 (hA.alike _ _ _ rfl) aq (zc ?_)
 (refine zq ?_;repeat ((first|rw[e1]);refine zq ?_))
 refine Tc hA aq hp hq eN eZ (fun env=>?_) (fun e=>?_) n 0 0 om om om rfl (fun j j0 j1=>om)
 ·refine zq ?_
  exact hQ _ _ eZ (.refl h)
 ·(refine zq ?_;repeat ((first|rw[e1]|rw[e2]);refine zq ?_))
  refine br (N<M) (by rw[aA hA]) (fun c=>?_) (fun c=>?_)<;>refine zc ?_
  ·refine zq ?_
   exact hQ _ _ (by rw[e,if_pos om]) (.refl h)
  ·refine zq ?_
   exact hQ _ _ (by rw[e,if_neg om]) (.refl h)
