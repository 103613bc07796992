import Derived.Test.YtdpbiegfljmhmaaGreatSymI
import Derived.Test.YtdpbiegfljmhmaaGreatFracR
import Derived.Test.YtdpbiegfljmhmaaGreatFracA
import Derived.Test.YtdpbiegfljmhmaaGreatSymBits
set_option linter.unusedSimpArgs false
set_option linter.unusedVariables false
namespace Go.Proofs.YtdpbiegfljmhmaaGreat
open Go.cV
def gt{α:Type}[Inhabited α](l:List α)(i:Int):α:=l.getD i.toNat default
structure Rows{α:Type}(enc:α->List Value)(es:Nat)(h:af)(a:Option Addr)(n:Nat)(l:List α):Prop where
 cells:Cells h a n es (l.flatMap enc)
 each:∀x,(enc x).length=es
 pos:0<es
theorem gD{α:Type}{enc:α->List Value}{es:Nat}(he:∀x,(enc x).length=es)(l:List α):(l.flatMap enc).length=l.length*es:=by
 induction l with
 |nil=>simp
 |cons c l ih=>rw[List.flatMap_cons,List.length_append,he,ih,List.length_cons,Nat.add_mul];omega
theorem G8{α:Type}[Inhabited α]{enc:α->List Value}{es:Nat}(he:∀x,(enc x).length=es)(l:List α)(i:Nat)(hi:i<l.length)(k m:Nat)(hk:k+m<=es):((l.flatMap enc).drop (i*es+k)).take m=((enc (l.getD i default)).drop k).take m:=by
 induction l generalizing i with
 |nil=>simp at hi
 |cons c l ih=>
  cases i with
  |zero=>
   rw[List.flatMap_cons,Nat.zero_mul,Nat.zero_add,List.drop_append_of_le_length (by rw[he];omega),List.take_append_of_le_length (by rw[List.length_drop,he];omega)];rfl
  |succ i=>
   have e:((c :: l).flatMap enc).drop ((i+1)*es+k)=(l.flatMap enc).drop (i*es+k):=by
    rw[List.flatMap_cons,show(i+1)*es+k=(enc c).length+(i*es+k) by rw[he,Nat.add_mul];omega,List.drop_append,List.drop_eq_nil_of_le om,Nat.add_sub_cancel_left,List.nil_append]
   rw[e];exact ih i (by simpa using hi)
theorem Rows.ext{α:Type}{enc:α->List Value}{es:Nat}{h h':af}{a:Option Addr}{n:Nat}{l:List α}(p:Rows enc es h a n l)(e:Ext h h'):Rows enc es h' a n l:=⟨p.cells.ext e,p.each,p.pos⟩
theorem Rows.len{α:Type}{enc:α->List Value}{es:Nat}{h:af}{a:Option Addr}{n:Nat}{l:List α}(p:Rows enc es h a n l):l.length=n:=by
 have h1:=p.cells.length;rw[gD p.each]at h1;exact Nat.eq_of_mul_eq_mul_right p.pos h1
theorem Rows.at{α:Type}[Inhabited α]{enc:α->List Value}{es:Nat}{h:af}{a:Option Addr}{n:Nat}{l:List α}(p:Rows enc es h a n l){i:Int}(h0:0<=i)(hi:i<n) :
  ∃b o,a=some ⟨b,o,none⟩/\b<h.next/\∀k m,k+m<=es->0<m->h.aN ⟨b,o+i.toNat*es+k,none⟩ m=some (((enc (gt l i)).drop k).take m):=by
 have hl:=p.len;have hm:∀k m,k+m<=es->i.toNat*es+k+m<=n*es:=fun k m hk=>by
  have:(i.toNat+1)*es<=n*es:=Nat.mul_le_mul_right _ om;rw[Nat.add_mul]at this;omega
 obtain⟨b,o,h1,h2,_⟩:=p.cells.at (i:=i.toNat*es+0) (m:=es) (hm 0 es om) p.pos;refine⟨b,o,h1,h2,fun k m hk hp=>?_⟩;obtain⟨b',o',th,_,Z0⟩:=p.cells.at (i:=i.toNat*es+k) (m:=m) (hm k m hk) hp;rw[h1]at th;cases th;rw[Nat.add_assoc,Z0,G8 p.each l i.toNat om k m hk];rfl
theorem ct.rows{α:Type}{enc:α->List Value}{es:Nat}{h:af}{b:Nat}{l:List α}(c:ct h b es (l.flatMap enc))(he:∀x,(enc x).length=es)(hp:0<es)(hb:b<h.next):Rows enc es h (some ⟨b,0,none⟩) l.length l:=by
 refine⟨⟨rfl,hb,?_⟩,he,hp⟩;have:=c.aN (o:=0) (n:=l.length*es) (by rw[gD he];omega);rw[this,List.drop_zero,List.take_of_length_le (by rw[gD he];omega)]
theorem Rows.nil{α:Type}{enc:α->List Value}{es:Nat}(h:af)(he:∀x,(enc x).length=es)(hp:0<es):Rows enc es h none 0 []:=⟨⟨rfl,rfl⟩,he,hp⟩
theorem ct.setRow{α:Type}[Inhabited α]{enc:α->List Value}{es:Nat}{h:af}{b:Nat}{l:List α}(c:ct h b es (l.flatMap enc))(he:∀x,(enc x).length=es){i:Nat}(hi:i<l.length)(x:α):∃h',h.write b (i*es) (enc x)=some h'/\ct h' b es ((l.set i x).flatMap enc)/\ku h h' b:=by
 have hle:(i+1)*es<=l.length*es:=Nat.mul_le_mul_right _ om;rw[Nat.add_mul]at hle;obtain⟨h',w1,w2,w3⟩:=c.write (o:=i*es) (vs:=enc x) (by rw[gD he,he];omega);refine⟨h',w1,?_,w3⟩;have e:∀(l:List α) (i:Nat),i<l.length->(l.flatMap enc).take (i*es)++(enc x++(l.flatMap enc).drop (i*es+(enc x).length))=(l.set i x).flatMap enc:=by
  intro l
  induction l with
  |nil=>intro i hi;simp at hi
  |cons c l ih=>
   intro i hi;cases i with
   |zero=>
    rw[List.set_cons_zero,List.flatMap_cons,List.flatMap_cons,Nat.zero_mul,Nat.zero_add,List.take_zero,List.nil_append,he,<-he c,List.drop_left]
   |succ i=>
    rw[List.set_cons_succ,List.flatMap_cons,List.flatMap_cons,show(i+1)*es=(enc c).length+i*es by rw[he,Nat.add_mul];omega,List.take_length_add_append,Nat.add_assoc,List.drop_length_add_append,List.append_assoc];rw[ih i (by simpa using hi)]
 rw[<-e l i hi];exact w2
set_option maxRecDepth 100000
def rq(n d:Int):Rat:=(n:Rat) / (d:Rat)
theorem okF.is{n d:Int}(h:okF n d):fW n d (rq n d):=by
 obtain⟨q,hq⟩:=h;have:=hq.val;unfold rq;rw[<-this];exact hq
theorem fW.rq{n d:Int}{q:Rat}(h:fW n d q):rq n d=q:=h.val.symm
theorem fW.ok{n d:Int}{q:Rat}(h:fW n d q):okF n d:=⟨q,h⟩
theorem oL{n:Int}(h0:-1000000000000000000<=n)(h1:n<=1000000000000000000):fW n 1 (n:Rat):=⟨(Rat.num_intCast n).symm,by rw[Rat.den_intCast];rfl,by rw[Rat.num_intCast];exact h0,by rw[Rat.num_intCast];exact h1,by rw[Rat.den_intCast];decide⟩
theorem oM{f:Rat->Rat->Rat}{n d m e a b r:Int}{p q:Rat}(hp:fW n d p)(hq:fW m e q)(hf:fits (f p q))(k:En f n d m e a b r):fW a b (f p q)/\r=0:=by
 rcases k with ⟨w,_⟩|⟨p',q',sP,zH,k⟩
 ·exact absurd ⟨⟨p,hp⟩,⟨q,hq⟩⟩ w
 ·obtain rfl:=hp.uniq sP
  obtain rfl:=hq.uniq zH;rcases k with ⟨_,rfl,rfl,rfl⟩|⟨w,_⟩
  ·exact⟨⟨rfl,rfl,hf⟩,rfl⟩
  ·exact absurd hf w
theorem aan{α β:Type}[Inhabited α][Inhabited β](f:α->β)(l:List α){i:Int}(h0:0<=i)(h1:i<l.length):gt (l.map f) i=f (gt l i):=by
 unfold gt;rw[List.getD,List.getD,List.getElem?_map,List.getElem?_eq_getElem om];rfl
theorem CG{α:Type}[Inhabited α](l:List α){i j:Int}(hi:0<=i)(hj:0<=j)(hl:i<l.length)(x:α):gt (l.set i.toNat x) j=if j=i then x else gt l j:=by
 unfold gt;rw[List.getD_eq_getElem?_getD,List.getD_eq_getElem?_getD,List.getElem?_set];by_cases e:j=i
 ·subst e;rw[if_pos rfl,if_pos om,if_pos rfl];rfl
 ·rw[if_neg om,if_neg e]
theorem uY{α:Type}[Inhabited α](l:List α){i:Int}(h0:0<=i)(h1:i<l.length):gt l i∈l:=by
 have h2:i.toNat<l.length:=om
 unfold gt;rw[List.getD_eq_getElem?_getD,List.getElem?_eq_getElem h2];exact List.getElem_mem ..
structure KR{α:Type}(le:α->α->Prop):Prop where
 refl:∀x,le x x
 trans:∀x y z,le x y->le y z->le x z
 total:∀x y,le x y\/le y x
theorem KR.TQ{α:Type}{le:α->α->Prop}(h:KR le){x y:α}(w:¬le x y):le y x:=(h.total x y).resolve_left w
section
variable{α:Type}[Inhabited α]
def dG(L:List α)(i j:Int):List α:=(L.set i.toNat (gt L j)).set j.toNat (gt L i)
theorem NY(L:List α)(i j:Int):(dG L i j).length=L.length:=by unfold dG;rw[List.length_set,List.length_set]
theorem jG(L:List α){i j k:Int}(i0:0<=i)(i1:i<L.length)(j0:0<=j)(j1:j<L.length)(k0:0<=k):gt (dG L i j) k=if k=j then gt L i else if k=i then gt L j else gt L k:=by
 unfold dG;rw[CG _ j0 k0 (by rw[List.length_set];exact j1),CG _ i0 k0 i1]
theorem count_set(L:List α)(p:α->Bool){i:Int}(i0:0<=i)(i1:i<L.length)(x:α):(L.set i.toNat x).countP p+(if p (gt L i)=true then 1 else 0)=L.countP p+if p x=true then 1 else 0:=by
 have h2:i.toNat<L.length:=om
 have e:gt L i=L[i.toNat]:=by
  unfold gt;rw[List.getD_eq_getElem?_getD,List.getElem?_eq_getElem h2];rfl
 rw[e,List.countP_set h2];by_cases c:p L[i.toNat]=true
 ·have:0<L.countP p:=List.countP_pos_iff.2 ⟨_,List.getElem_mem h2,c⟩
  by_cases d:p x=true<;>simp[c,d]<;>omega
 ·by_cases d:p x=true<;>simp[c,d]
theorem G9(L:List α)(p:α->Bool){i j:Int}(i0:0<=i)(i1:i<L.length)(j0:0<=j)(j1:j<L.length):(dG L i j).countP p=L.countP p:=by
 unfold dG;have h1:=count_set L p i0 i1 (gt L j);have h2:=count_set (L.set i.toNat (gt L j)) p (i:=j) j0 (by rw[List.length_set];exact j1) (gt L i);rw[CG L i0 j0 i1]at h2;by_cases e:j=i
 ·subst e
  rw[if_pos rfl]at h2;omega
 ·rw[if_neg e]at h2
  omega
structure aK(a b:Int)(L L':List α):Prop where
 len:L'.length=L.length
 out:∀j:Int,0<=j->(j<a\/b<=j)->gt L' j=gt L j
 all:∀P:α->Prop,(∀j:Int,a<=j->j<b->P (gt L j))->∀j:Int,a<=j->j<b->P (gt L' j)
 sQ:∀p:α->Bool,L'.countP p=L.countP p
theorem aK.refl(a b:Int)(L:List α):aK a b L L:=⟨rfl,fun _ _ _=>rfl,fun _ h=>h,fun _=>rfl⟩
theorem aK.trans{a b:Int}{L M N:List α}(h:aK a b L M)(k:aK a b M N):aK a b L N:=
 ⟨k.len.trans h.len,fun j j0 q=>(k.out j j0 q).trans (h.out j j0 q),fun P w=>k.all P (h.all P w),fun p=>(k.sQ p).trans (h.sQ p)⟩
theorem aK.wide{a b a' b':Int}{L M:List α}(h:aK a' b' L M)(a0:0<=a)(ha:a<=a')(hb:b'<=b):aK a b L M:=by
 refine⟨h.len,fun j j0 q=>h.out j j0 om,fun P w j ja jb=>?_,h.sQ⟩;by_cases c:a'<=j/\j<b'
 ·exact h.all P (fun k k0 k1=>w k om om) j c.1 c.2
 ·rw[h.out j om om]
  exact w j ja jb
theorem aK.swap{a b:Int}(L:List α){i j:Int}(a0:0<=a)(hb:b<=L.length)(i0:a<=i)(i1:i<b)(j0:a<=j)(j1:j<b):aK a b L (dG L i j):=by
 refine⟨NY L i j,fun k k0 q=>?_,fun P w k k0 k1=>?_,fun p=>G9 L p om om om om⟩
 ·rw[jG L om om om om k0,if_neg om,if_neg om]
 ·rw[jG L om om om om om]
  split
  ·exact w i i0 i1
  ·split
   ·exact w j j0 j1
   ·exact w k k0 k1
variable{le:α->α->Prop}
def aI(le:α->α->Prop)(L:List α)(a b:Int):Prop:=∀p q:Int,a<=p->p<q->q<b->le (gt L p) (gt L q)
def oZ(le:α->α->Prop)(L:List α)(a b j:Int):Prop:=∀p q:Int,a<=p->p<q->q<=b->q≠j->le (gt L p) (gt L q)
theorem oZ.start{L:List α}{a i:Int}(h:aI le L a i):oZ le L a i i:=fun p q p0 pq q1 qj=>h p q p0 pq om
theorem oZ.first{L:List α}{a i:Int}(h:oZ le L a i a):aI le L a (i+1):=fun p q p0 pq q1=>h p q p0 pq om om
theorem oZ.stop(hp:KR le){L:List α}{a i j:Int}(h:oZ le L a i j)(ja:a<j)(w:le (gt L (j-1)) (gt L j)):aI le L a (i+1):=by
 intro p q p0 pq q1;by_cases e:q=j
 ·subst e
  by_cases e2:p=q-1
  ·rw[e2];exact w
  ·exact hp.trans _ _ _ (h p (q-1) p0 om om om) w
 ·exact h p q p0 pq om e
theorem oZ.step(hp:KR le){L:List α}{a i j:Int}(a0:0<=a)(hl:i<L.length)(h:oZ le L a i j)(ja:a<j)(ji:j<=i)(w:¬le (gt L (j-1)) (gt L j)):oZ le (dG L j (j-1)) a i (j-1):=by
 have w':=hp.TQ w;have g:∀k:Int,0<=k->gt (dG L j (j-1)) k=if k=j-1 then gt L j else if k=j then gt L (j-1)else gt L k:=fun k k0=>jG L om om om om k0
 intro p q p0 pq q1 qj;rw[g p om,g q om,if_neg (show ¬q=j-1 from qj)];by_cases e:q=j
 ·rw[if_pos e]
  by_cases e2:p=j-1
  ·rw[if_pos e2];exact w'
  ·rw[if_neg e2,if_neg (show ¬p=j by omega)]
   exact h p (j-1) p0 om om om
 ·rw[if_neg e]
  by_cases e2:p=j-1
  ·rw[if_pos e2]
   exact h j q om om q1 e
  ·rw[if_neg e2]
   by_cases e3:p=j
   ·rw[if_pos e3]
    exact h (j-1) q om om q1 e
   ·rw[if_neg e3]
    exact h p q p0 pq q1 e
end
theorem EZ(h:af)(n:Nat){b:Nat}(hb:h.next<=b)(es:Nat)(cs:List Value):Ext h ((h.aH n).putAt b es cs):=
 ⟨by simp[af.aH,af.putAt],fun l=>by simp only[af.aH,af.putAt];omega,by simp only[af.aH,af.putAt];exact Nat.min_le_left _ _,fun i hi=>by
  simp only[af.aH,af.putAt];rw[cW.aT _ _ om]⟩
theorem qH{α:Type}{enc:α->List Value}(fF:∀x,(enc x).all aF=true)(l:List α):(l.flatMap enc).all aF=true:=by
 rw[List.all_flatMap];simp only[fF,List.all_eq_true,implies_true]
theorem Ke{a b:Nat}(h:a≠b):Nat.beq a b=false:=by
 cases q:Nat.beq a b with
 |false=>rfl
 |true=>exact absurd (Nat.eq_of_beq_eq_true q) h
end Go.Proofs.YtdpbiegfljmhmaaGreat
namespace Go.cV
theorem Cells.part{h:af}{a:Option Addr}{n es:Nat}{cells:List Value}(c:Cells h a n es cells){i m:Nat}(hi:i+m<=n):Cells h (a.map (gi · (i*es))) m es ((cells.drop (i*es)).take (m*es)):=by
 have hlen:=c.length;have hm:i*es+m*es<=n*es:=by rw[<-Nat.add_mul];exact Nat.mul_le_mul_right es hi
 cases a with
 |none=>
  obtain⟨rfl,rfl⟩:=c;exact⟨om,by simp⟩
 |some ad=>
  obtain⟨h1,h2,h3⟩:=c;obtain⟨b,o,sp⟩:=ad;simp only at h1;subst h1;refine⟨rfl,h2,?_⟩;unfold af.aN gi at *;simp only[]at h3 ⊢;split at h3
  ·rename_i cs wv
   obtain⟨e1,e2⟩:=D8 h3;refine ot ?_ ?_
   ·subst e1
    rw[List.drop_take,List.take_take,List.drop_drop,Nat.min_eq_left om]
   ·simp only[List.length_take,List.length_drop];omega
  ·cases h3
theorem Cells.head{h:af}{a:Option Addr}{n es:Nat}{cells:List Value}(c:Cells h a n es cells){m:Nat}(hm:m<=n):Cells h a m es (cells.take (m*es)):=by
 have:=c.part (i:=0) (m:=m) om;rw[Nat.zero_mul,List.drop_zero]at this;cases a with
 |none=>exact this
 |some ad=>exact this
theorem Ha{α:Type}{enc:α->List Value}{es:Nat}(he:∀x,(enc x).length=es)(l:List α)(k:Nat):(l.flatMap enc).take (k*es)=(l.take k).flatMap enc:=by
 induction l generalizing k with
 |nil=>simp
 |cons x l ih=>
  cases k with
  |zero=>simp
  |succ k=>rw[List.flatMap_cons,List.take_succ_cons,List.flatMap_cons,List.take_append,he,List.take_of_length_le (by rw[he,Nat.succ_mul];omega),show(k+1)*es-es=k*es by rw[Nat.succ_mul];omega,ih]
def va(P:Program)(h:af)(e es:Nat)(a:Option Addr)(n c:Nat)(news:List Value):Prop:=jK P h e es false (.slice a n c)=some (n,news)/\news.length=n*es
theorem va.of{P:Program}{h:af}{e es:Nat}{a:Option Addr}{n:Nat}{news:List Value}(c:Nat)(hs:Cells h a n es news):va P h e es a n c news:=by
 refine⟨?_,hs.length⟩;unfold jK;simp only[cond_false];cases a with
 |none=>obtain⟨rfl,rfl⟩:=hs;simp
 |some ad=>
  obtain⟨h1,h2,h3⟩:=hs;simp only[h3]
theorem va.nothing(P:Program)(h:af)(e es:Nat)(x c:Nat):va P h e es (some ⟨0,0,some x⟩) 0 c []:=by
 refine⟨?_,by simp⟩;unfold jK af.aN;rfl
theorem E0{P:Program}{t t2 e es:Nat}(hT:gA P t e es)(JG:P.underlying t2=some (.slice e)){h:af}{b n c n2 c2:Nat}{a2:Option Addr}{cells news:List Value}(hp:Gu h es b n c cells)(hs:va P h e es a2 n2 c2 news)(fF:cells.all aF=true)(rH:news.all aF=true)(uE:n+n2<=1000000) :
  ∃b' c' h',cQ P h [t,t2] [.slice (some ⟨b,0,none⟩) n c,.slice a2 n2 c2]=some (.slice (some ⟨b',0,none⟩) (n+n2) c',h')/\Gu h' es b' (n+n2) c' (cells++news)/\h.next<=h'.next/\(b'=b\/h.next<=b')/\(∀j,j<h.next->j≠b->h'.m.get j=h.m.get j)/\(∀h0,Ext h0 h->h0.next<=b->Ext h0 h'/\h0.next<=b'):=by
 obtain⟨ho,hb,hl,hc⟩:=hp;obtain⟨by_,rN,nV⟩:=hT.bytes;obtain⟨z,hz,zO⟩:=hT.zero;obtain⟨gS,ta⟩:=hs;have Jl:cO c=n:=by
  rcases hc with ⟨rfl,rfl⟩|rfl
  ·rfl
  ·exact cA (by unfold aS;omega)
 unfold cQ;simp only[hT.yE,hT.size,rN,JG,hz,cZ,gS];rw[Jl];by_cases h0:n2=0
 ·subst h0
  have:news=[]:=by simpa using ta
  subst this;obtain⟨h',hw,mR,pN⟩:=ho.write (o:=n*es) (vs:=[]) (by simp;omega);have VW:h.iA (gi ⟨b,0,none⟩ (n*es)) []=some h':=by
   unfold af.iA gi;simp only[List.all_nil,cond_true,Nat.zero_add];exact hw
  rw[bz (show n+0<=n by omega)];simp only[cond_true,VW];have e2:cells.take (n*es)++([]++cells.drop (n*es+([]:List Value).length))=cells:=by simp
  rw[e2]at mR;exact⟨b,c,h',rfl,⟨by simpa using mR,by rw[pN.next];exact hb,by simpa using hl,hc⟩,by rw[pN.next];exact Nat.le_refl _,.inl rfl,fun j _ j1=>pN.get j j1,fun h0 e0 ng=>⟨pN.ext e0 ng,ng⟩⟩
 ·rw[ft om]
  simp only[cond_false];rw[bz (show n+n2<=1073741824 by omega),bz nV,rH,zO,ta];simp only[Bool.and_self,Nat.beq_refl,cond_true];have hr:h.aN ⟨b,0,none⟩ (n*es)=some cells:=by rw[ho.aN om];simp[<-hl]
  simp only[hr];rcases hc with ⟨rfl,rfl⟩|rfl
  ·rw[eE (show 0<aS by unfold aS;omega),fF]
   simp only[cond_true];refine⟨_,_,_,rfl,⟨ct.push _ _ _,by simp[af.push],by simp[hl,ta],.inr rfl⟩,by simp[af.push],.inr (Nat.le_refl _),fun j j0 _=>(Ext.push h es _).get j j0,fun h0 e0 ng=>⟨e0.trans (.push _ _ _),e0.next⟩⟩
  ·rw[cJ (dB es n),fF]
   simp only[cond_false,cond_true];rw[show h.m.get b=some (.live true es cells)from ho];simp only[Nat.beq_refl,cond_true];refine⟨_,_,_,rfl,⟨ct.push (h.kill b) es _,by simp[af.push,af.kill],by simp[hl,ta,Nat.add_mul],.inr rfl⟩,by simp[af.push,af.kill],.inr (Nat.le_refl _),fun j j0 j1=>?_,fun h0 e0 ng=>⟨(e0.kill ng).trans (.push _ _ _),?_⟩⟩
   ·have k1:(h.kill b).m.get j=h.m.get j:=by unfold af.kill;simp only[];rw[cW.aT _ _ (fun q=>j1 q.symm)]
    rw[<-k1];exact(Ext.push (h.kill b) es _).get j (by unfold af.kill;exact j0)
   ·exact e0.next
end Go.cV
namespace Go.Proofs.YtdpbiegfljmhmaaGreat
open Go.cV
set_option maxRecDepth 100000
theorem mixed:Tryz.prog.follows .mixedOrders=true:=by kernel_rfl
theorem names : Tryz.prog.funcs.toList.all (fun fn => !(fn.name == "runtime.NumGoroutine")) = true := by kernel_rfl
theorem named(g : FuncId)(fn : Func)(h : Tryz.prog.funcs[g]? = some fn) : (fn.name == "runtime.NumGoroutine") = false := by
 have:=List.all_eq_true.1 names fn (List.mem_of_getElem? (by simpa using h));simpa using this
noncomputable def TT:Code:=Tryz.f90.body.getD .skip
theorem wR:Tryz.f90.body=some TT:=by kernel_rfl
theorem Bd:gA Tryz.prog 22 28 1:=⟨by kernel_rfl,by kernel_rfl,⟨24,by kernel_rfl,om⟩,⟨.slice none 0 0,by kernel_rfl,rfl⟩⟩
theorem zLL:iv Tryz.prog 28=some (.slice none 0 0):=by kernel_rfl
theorem uI:Tryz.prog.underlying 3=some (.int .i64):=by kernel_rfl
theorem sJ(v:Value):∀n,bE [v] n=List.replicate n v
 |0=>rfl
 |n+1=>by simp only[bE,List.replicate_succ,sJ v n];rfl
theorem CH{h:af}{b i n M:Nat}{J:Int}(eJ:J=M){cs:List Value}(hm:ct h b 1 cs)(hl:cs.length=n)(hi:i<n)(hM:i+M=n+1)(hn:n<=1000)(fF:cs.all aF=true) :
  cQ Tryz.prog h [22,3] [.slice (some ⟨b,0,none⟩) i n,.int .i64 J]=some (.slice (some ⟨h.next,0,none⟩) (n+1) (az 1 (n+1)),h.push 1 (cs.take i++List.replicate M (.slice none 0 0))):=by
 subst eJ;have hT:=Bd;obtain⟨by_,rN,nV⟩:=hT.bytes;have hs:n<aS:=by unfold aS;omega
 have gS:jK Tryz.prog h 28 1 true (.int .i64 (M:Int))=some (M,List.replicate M (.slice none 0 0)):=by
  unfold jK;simp only[zLL,rN,cond_true];rw[if_pos ⟨om,om,nV,rfl⟩];show some (_,bE [.slice none 0 0] _)=_;rw[sJ];rfl
 have hr:h.aN ⟨b,0,none⟩ i=some (cs.take i):=by rw[hm.aN om];simp
 have F9:(List.replicate M (Value.slice none 0 0)).all aF=true:=by simp[aF]
 have W6:(cs.take i).all aF=true:=by
  rw[List.all_eq_true]at fF ⊢;exact fun v hv=>fF v (List.mem_of_mem_take hv)
 unfold cQ;simp only[hT.yE,hT.size,rN,uI,zLL,cZ,gS,fu hs];rw[ft om,bz (show i+M<=1073741824 by omega),bz nV];simp only[cond_false,cond_true,hr,F9,W6,eE hs,Bool.and_self,Bool.true_and,hM,List.length_replicate,Nat.mul_one,Nat.beq_refl,show(Value.slice none 0 0).cells.toList.length.beq 1=true from rfl]
theorem tY{h:af}{b o m k c ns cp:Nat}{xs l:List Value}{a:Addr}(ho:ct h b 1 xs)(hk:Nat.min ns m=k)(hr:h.aN a k=some l)(hl:l.length=k)(hox:o+k<=xs.length)(fF:l.all aF=true) :
  ∃h',sU Tryz.prog h [22,22] [.slice (some ⟨b,o,none⟩) m c,.slice (some a) ns cp]=some (.int .i64 (k:Nat),h')/\ct h' b 1 (xs.take o++(l++xs.drop (o+k)))/\ku h h' b:=by
 obtain⟨h',w1,w2,w3⟩:=ho.write (o:=o) (vs:=l) om;rw[hl]at w2;refine⟨h',?_,w2,w3⟩;unfold sU;simp only[Bd.yE,Bd.size,hk,Nat.mul_one,hr];unfold af.iA;simp only[fF,cond_true,w1]
variable{F:bg}{call head arith cmp yj fD iw conv neg imax uM ofNat Gi place HP nz LW rd wr push next v9 nat iW Jw rS cut BS Jx nB part app Pw putAt fresh aB aH wrote bZ lt ne kp yk sj yn uO Jy Gj Jz bytes Uw:_}(hA:AP F ⟨call,head,arith,cmp,yj,fD,iw,conv,neg,imax,uM,ofNat,Gi,place,HP,nz,LW,rd,wr,push,next,v9,nat,iW,Jw,rS,cut,BS,Jx,nB,part,app,Pw,putAt,fresh,aB,aH,wrote,bZ,lt,ne,kp,yk,sj,yn,uO,Jy,Gj,Jz,bytes,Uw⟩)
include hA
theorem G6{h:af}(ar:h.low<=h.next){n:Int}{Q:Value->af->Prop}(hQ:Q (.agg #[.int .i64 n,.int .i64 1]) h):call 37 [.int .i64 n] h Q:=by
 refine hA.aO Tryz.func37 x37.2 (hA.alike _ _ _ rfl) ar (zc ?_);exact hQ
theorem Kq{h:af}(ar:h.low<=h.next){n d:Int}(hn:i64 n)(n0:-9223372036854775808<n)(hd:0<d){Q:Value->af->Prop}(hQ:Q (.int .i64 (n / d)) h):call 82 [.int .i64 n,.int .i64 d] h Q:=by
 unfold i64 at hn;have t0:=Int.natAbs_tdiv_le_natAbs n d;refine hA.aO Tryz.func82 x82.2 (hA.alike _ _ _ rfl) ar (zc ?_);have e1:arith .quo .i64 n d=n.tdiv d:=by rw[A3 hA,wrap64 om om]
 have e2:arith .rem .i64 n d=n.tmod d:=A4 hA _ _ _;have key:=Int.mul_tdiv_add_tmod n d;have lt1:-d<n.tmod d:=Int.lt_tmod_of_pos n hd;have lt2:n.tmod d<d:=Int.tmod_lt_of_pos n hd;generalize n.tdiv d=t at *;generalize n.tmod d=s at *;have ed:=Int.mul_ediv_add_emod n d;have m0:=Int.emod_nonneg n (show d≠0 by omega);have m1:=Int.emod_lt_of_pos n hd
 (refine zq ?_;repeat ((first|rw[e1]|rw[e2]);refine zq ?_))
 refine br (s<0) (by rw[aA hA]) (fun c=>?_) (fun c=>?_)<;>refine zc ?_
 ·have e3:t-1=n / d:=by
   have w:s+d+d*(t-1)=n:=by rw[Int.mul_sub,Int.mul_one];omega
   exact((Int.ediv_emod_unique hd).2 ⟨w,om,om⟩).1.symm
  have t1:-9223372036854775808<=t-1:=om
  rw[bN hA om om,e3];exact hQ
 ·have e3:t=n / d:=((Int.ediv_emod_unique (r:=s) hd).2 ⟨om,om,om⟩).1.symm
  rw[e3];exact hQ
theorem NZ{h:af}(ar:h.low<=h.next){n d:Int}{q:Rat}(hq:fW n d q){Q:Value->af->Prop}(hQ:∀h',Ext h h'->Q (.tuple #[.int .i64 (n / d),.int .i64 0]) h'):call 67 [.agg #[.int .i64 n,.int .i64 d]] h Q:=by
 have d1:=hq.den;have n1:=hq.2.2.1;rw[<-hq.1]at n1;refine hA.aO Tryz.func67 x67.2 (hA.alike _ _ _ rfl) ar (zc ?_);refine qw hA ar hq.iU hq.jC (fun e h1 k1 x1=>⟨_,rfl,?_⟩);obtain rfl:e=0:=by
  rcases k1 with ⟨q,_⟩|⟨_,w⟩
  ·exact q
  ·exact absurd hq.ok w
 refine zc ?_;refine br False (by rw[bR hA];rfl) (fun q=>q.elim) (fun _=>?_)<;>refine zc ?_;refine Kq hA (x1.aD ar) hq.iU om om ⟨_,rfl,?_⟩;refine zc ?_;exact hQ _ x1
theorem CJ{t e es:Nat}(hT:gA Tryz.prog t e es){α:Type}{enc:α->List Value}(he:∀x,(enc x).length=es)(LJ:0<es)(fF:∀x,(enc x).all aF=true){h:af}{a:Option Addr}{n c:Nat}{l:List α}{v:α}(hp:mT h es a n c (l.flatMap enc))(hn:n<=100000){C:Option Addr->Nat->Nat->af->Prop}
  (hC:∀a' c' h',mT h' es a' (n+1) c' ((l++[v]).flatMap enc)->(∀h0,Ext h0 h->jm h0.next a->Ext h0 h'/\jm h0.next a')->C a' (n+1) c' h') :
  app [t,t] [.slice a n c,.slice (some ⟨next h,0,none⟩) 1 1] (push h es (enc v)) C:=by
 rw[vF hA,dy hA,cX hA];have hs:Cells (h.push es (enc v)) (some ⟨h.next,0,none⟩) 1 es (enc v):=⟨rfl,by simp[af.push],by rw[(ct.push h es _).aN (by rw[he];omega),List.drop_zero,List.take_of_length_le (by rw[he];omega)]⟩;have F9:(l.flatMap enc).all aF=true:=by
  rw[List.all_flatMap];simp only[fF,List.all_eq_true,implies_true]
 obtain⟨a',c',h',h1,h2,h3⟩:=AU hT hT.yE (c2:=1) (hp.ext (.push h es (enc v))) hs F9 (fF v) om om;refine⟨a',n+1,c',h',h1,hC a' c' h' (by simpa using h2) (fun h0 e0 f0=>h3 h0 (e0.trans (.push _ _ _)) f0)⟩
theorem IH{t e es:Nat}(hT:gA Tryz.prog t e es){α:Type}{enc:α->List Value}(he:∀x,(enc x).length=es)(LJ:0<es)(fF:∀x,(enc x).all aF=true){h0 h h9:af}(ar:h0.low<=h0.next)(e0:Ext h0 h){N k:Nat}(hk:k<N)(iH:h9=aH h N)
  {a:Option Addr} {n c:Nat} {l:List α} {v:α} (hp:mT h es a n c (l.flatMap enc)) (hf:jm h0.next a) (hn:n<=100000) {C:Option Addr->Nat->Nat->af->Prop}
  (hC:∀a' c' h',mT (aB (putAt h9 (bZ (next h) k) es (enc v)) h') es a' (n+1) c' ((l++[v]).flatMap enc)->jm h0.next a'->Ext h0 (aB (putAt h9 (bZ (next h) k) es (enc v)) h')->C a' (n+1) c' h') :
  app [t,t] [.slice a n c,.slice (some ⟨bZ (next h) k,0,none⟩) 1 1] (fresh (putAt h9 (bZ (next h) k) es (enc v))) C:=by
 rw[mV hA]at iH;subst iH;rw[dj hA,cX hA,PO hA]at hC ⊢;rw[j7 hA];have x1:Ext h ((h.aH N).putAt (h.next+k) es (enc v)):=EZ h N om es _;have o1:=ct.putAt (h.aH N) (h.next+k) es (enc v);have n1:((h.aH N).putAt (h.next+k) es (enc v)).next=h.next+N:=rfl;generalize (h.aH N).putAt (h.next+k) es (enc v)=X at *;have xf:=x1.trans (Ext.dO X);have o2:ct X.dO (h.next+k) es (enc v):=o1.ext (Ext.dO X) om;have hs:Cells X.dO (some ⟨h.next+k,0,none⟩) 1 es (enc v):=⟨rfl,by show h.next+k<X.next;omega,by rw[o2.aN (by rw[he];omega),List.drop_zero,List.take_of_length_le (by rw[he];omega)]⟩;obtain⟨a',c',h',h1,h2,h3⟩:=AU hT hT.yE (c2:=1) (hp.ext xf) hs (qH fF l) (fF v) om om;obtain⟨w1,w2⟩:=h3 h0 (e0.trans xf) hf;rw[vF hA];refine⟨a',n+1,c',h',h1,hC a' c' h' ?_ w2 ?_⟩
 ·rw[fv hA]
  refine mT.gQ (h:=h') (by simpa using h2) (Nat.le_refl _) (fun ad dc hb=>rfl)
 ·rw[fv hA]
  exact Ext.Cd w1 (e0.trans x1) ar
theorem TU{t:TypeId}{e es:Nat}(hT:gA Tryz.prog t e es){a:Option Addr}{n:Nat}(hn:n<=1000000){k:IntKind}{i:Int}(i0:1<=i)(i1:i<n){C:Option Addr->Nat->Nat->Prop}
  (h:C (a.map (gi · (i.toNat*es))) (n-i.toNat) (az es (n-i.toNat))):BS t (.slice a n (az es n)) (some (.int k i)) none none C:=by
 have tZ:BS t (.slice a n (az es n)) (some (.int k i)) none none C = ∃a' n' c',gO Tryz.prog t (.slice a n (az es n)) (some (.int k i)) none none=some (.slice a' n' c')/\C a' n' c':=by have:=hA.eq;injections;subst_vars;rfl
 rw[tZ];refine⟨_,_,_,?_,h⟩;have hs:n<aS:=by unfold aS;omega
 unfold gO;simp only[hT.yE,hT.size];unfold lL;simp only[gH,iM,ik,bound];rw[if_pos ⟨om,om⟩];simp only[];rw[cA hs,bz (Nat.le_refl _),cJ (dB es n),kg hs];simp only[cond_true,cond_false,Option.isSome_none,Bool.or_false];rw[Ke (show i.toNat≠0 by omega),eE om];simp
theorem CK{t:TypeId}{e es:Nat}(hT:gA Tryz.prog t e es){b o n:Nat}(hn:n<=1000000){k:IntKind}{i:Int}(i0:0<=i)(i1:i<n){C:Option Addr->Nat->Nat->Prop}
  (h:∀c',C (some ⟨b,o+i.toNat*es,none⟩) (n-i.toNat) c'):BS t (.slice (some ⟨b,o,none⟩) n (az es n)) (some (.int k i)) none none C:=by
 by_cases c:1<=i
 ·exact TU hA hT hn c i1 (h _)
 obtain rfl:i=0:=om
 have tZ:BS t (.slice (some ⟨b,o,none⟩) n (az es n)) (some (.int k 0)) none none C = ∃a' n' c',gO Tryz.prog t (.slice (some ⟨b,o,none⟩) n (az es n)) (some (.int k 0)) none none=some (.slice a' n' c')/\C a' n' c':=by have:=hA.eq;injections;subst_vars;rfl
 rw[tZ];have h:=h (az es n);rw[show o+(0:Int).toNat*es=o by simp,show n-(0:Int).toNat=n by simp]at h;refine⟨_,_,_,?_,h⟩;have hs:n<aS:=by unfold aS;omega
 unfold gO;simp only[hT.yE,hT.size];unfold lL;simp only[gH,iM,ik,bound];rw[if_pos ⟨om,om⟩];simp only[];rw[cA hs,bz (Nat.le_refl _),cJ (dB es n),kg hs];simp
theorem E5{t:TypeId}{e es:Nat}(hT:gA Tryz.prog t e es){b o n c:Nat}(ec:c=az es n)(hn:n<=1000000){k:IntKind}{i:Int}(i0:0<=i)(i1:i<n){C:Option Addr->Nat->Nat->Prop}
  (h:∀c',C (some ⟨b,o+i.toNat*es,none⟩) (n-i.toNat) c'):BS t (.slice (some ⟨b,o,none⟩) n c) (some (.int k i)) none none C:=by
 subst ec;exact CK hA hT hn i0 i1 h
theorem Nt{t:TypeId}{e es:Nat}(hT:gA Tryz.prog t e es){h:af}{a:Option Addr}{n c:Nat}(hn:n<=1000000)(hc:c=az es n\/(n=0/\a=none/\c=0)){cells:List Value}(hs:Cells h a n es cells){k:IntKind}{i:Nat}(hi:i<=n){C:Option Addr->Nat->Nat->Prop}
  (hC:∀a' c',(∀h',Ext h h'->va Tryz.prog h' e es a' (n-i) c' (cells.drop (i*es)))->C a' (n-i) c'):BS t (.slice a n c) (some (.int k i)) none none C:=by
 have tZ:BS t (.slice a n c) (some (.int k i)) none none C = ∃a' n' c',gO Tryz.prog t (.slice a n c) (some (.int k i)) none none=some (.slice a' n' c')/\C a' n' c':=by have:=hA.eq;injections;subst_vars;rfl
 have hlen:=hs.length;rw[tZ];unfold gO;simp only[hT.yE,hT.size];unfold lL;simp only[gH,iM,ik,bound];rcases hc with rfl|⟨rfl,rfl,rfl⟩
 ·have C0:n<aS:=by unfold aS;omega
  rw[if_pos ⟨om,om⟩];simp only[];rw[cA C0,bz (Nat.le_refl _),cJ (dB es n),kg C0];simp only[cond_true,cond_false,Option.isSome_none,Bool.or_false,Int.toNat_natCast];by_cases c0:i=0
  ·subst c0
   rw[show Nat.beq 0 0=true from rfl];simp only[cond_true];refine⟨_,_,_,rfl,hC _ _ (fun h' x=>?_)⟩;rw[Nat.zero_mul,List.drop_zero];exact va.of _ (hs.ext x)
  rw[Ke c0];simp only[cond_false];by_cases c1:i<n
  ·rw[eE c1]
   simp only[Bool.true_and,Nat.beq_refl,cond_true];refine⟨_,_,_,rfl,hC _ _ (fun h' x=>?_)⟩;have:=(hs.ext x).part (i:=i) (m:=n-i) om;rw[List.take_of_length_le (by rw[List.length_drop,hlen,Nat.sub_mul];omega)]at this;exact va.of _ this
  ·have e1:i=n:=om
   subst e1;rw[cJ (Nat.le_refl _)];simp only[Bool.false_and,cond_false];rw[show Nat.beq i i=true by simp];simp only[cond_true,Nat.sub_self];refine⟨_,_,_,rfl,?_⟩;have:=hC (some ⟨0,0,some 0⟩) aS (fun h' _=>by
    rw[Nat.sub_self,List.drop_of_length_le om];exact va.nothing _ _ _ _ _ _)
   rwa [Nat.sub_self]at this
 ·obtain rfl:i=0:=om
  obtain⟨_,rfl⟩:=hs;rw[if_pos ⟨om,by simp⟩];simp only[];refine⟨none,0,0,rfl,?_⟩;exact hC none 0 (fun h' _=>by simpa using va.of (P:=Tryz.prog) (h:=h') (e:=e) (es:=es) 0 (show Cells h' none 0 es []from⟨rfl,rfl⟩))
theorem II{t:TypeId}{e es:Nat}(hT:gA Tryz.prog t e es){b o n:Nat}(hn:n<=1000000){k:IntKind}{I:Int}{i:Nat}(eI:I=i)(i1:i<n){C:Option Addr->Nat->Nat->Prop}
  (h:C (some ⟨b,o+i*es,none⟩) (n-i) (n-i)):BS t (.slice (some ⟨b,o,none⟩) n n) (some (.int k I)) none none C:=by
 subst eI;have tZ:BS t (.slice (some ⟨b,o,none⟩) n n) (some (.int k i)) none none C = ∃a' n' c',gO Tryz.prog t (.slice (some ⟨b,o,none⟩) n n) (some (.int k i)) none none=some (.slice a' n' c')/\C a' n' c':=by have:=hA.eq;injections;subst_vars;rfl
 rw[tZ];refine⟨_,_,_,?_,h⟩;have hs:n<aS:=by unfold aS;omega
 unfold gO;simp only[hT.yE,hT.size];unfold lL;simp only[gH,iM,ik,bound,fu hs];rw[if_pos ⟨om,om⟩];simp only[bz (Nat.le_refl n),eE hs,cond_true,Bool.true_or];rw[Ke (show n≠(i:Int).toNat by omega)];rfl
set_option maxHeartbeats 1000000 in
theorem N3(hF:dC Tryz.prog F){h:af}(ar:h.low=h.next){b vb n i:Nat}{I:Int}(eI:I=i){cs:List Value}{v:Value}(hb:b<h.next)(hm:ct h b 1 cs)(hl:cs.length=n)(UR:vb<h.next)(hv:ct h vb 1 [v])(hi:i<n)(hn:n<=1000)(fF:cs.all aF=true)(TV:aF v=true){R:Value->af->Prop}
  (hR:∀b2 h',ct h' b2 1 (cs.take i++v :: cs.drop i)->h.next<=b2->b2<h'.next->h.next<=h'.low->R (.slice (some ⟨b2,0,none⟩) (n+1) (az 1 (n+1))) h') :
  rI progU Tryz.f90.ntmps TT ⟨rT [.slice (some ⟨b,0,none⟩) n n,.int .i64 I,.slice (some ⟨vb,0,none⟩) 1 1] 0 [],0,[],h⟩ (fun e s'=>(e=.normal\/e=.ret)/\∃v,lk s'.env 6=some v/\dA v=true/\R v s'.h):=by
 have run:=fun {c:Code} {s:SS} {Q:Exit->SS->Prop} (hl:bF c=[]) (hr:bG c=[])=>rI.run hA.toAOK live mixed hF named Tryz.func90 wR (c:=c) hl hr (s:=s) (Q:=Q)
 have e1:ofNat 1=1:=aJ hA 1;obtain⟨N,eN⟩:∃z:Int,z=n:=⟨_,rfl⟩;have e2:ofNat n=N:=by rw[eN];exact aJ hA n
 refine run rfl rfl (zc ?_);refine II hA Bd om eI hi ?_;refine zc ?_;rw[e1,show cmp .eql 1 0=false by rw[cY hA];rfl];refine zc ?_;rw[e2,show cmp .eql I N=false by rw[cY hA];simp;omega];refine zc ?_;have e3:arith .add .i64 N 1=N+1:=aG hA om om;refine⟨(show lt n 9223372036854775808=(n<9223372036854775808) by have:=hA.eq;injections;subst_vars;rfl) ▸ om,?_⟩;refine zc ?_;rw[e2,e3,show cmp .gtr (N+1) N=true by rw[cS hA];simp;omega];refine zc ?_;refine⟨by rw[Mu hA,fu (by unfold aS;omega)];omega,?_⟩;refine zc ?_;have e4:arith .sub .i64 (N+1) I=N+1-I:=bN hA om om;rw[e3,e4];rw[vF hA];obtain⟨M,eM⟩:∃z:Int,z=N+1-I:=⟨_,rfl⟩;rw[<-eM];have en:nat I=i:=by rw[H2 hA];omega
 rw[en];refine⟨_,_,_,_,CH (M:=n+1-i) om hm hl hi om hn fF,?_⟩;obtain⟨xs,exs⟩:∃z,z=cs.take i++List.replicate (n+1-i) (Value.slice none 0 0):=⟨_,rfl⟩;have hxl:xs.length=n+1:=by rw[exs];simp;omega
 have o1:ct (h.push 1 xs) h.next 1 xs:=.push _ _ _;have x1:Ext h (h.push 1 xs):=.push _ _ _;rw[<-exs];obtain⟨h1,YH⟩:∃z,z=h.push 1 xs:=⟨_,rfl⟩;rw[<-YH]at o1 x1 ⊢;obtain⟨q,eq⟩:∃z,z=n+1:=⟨_,rfl⟩;rw[<-eq];obtain⟨nx,enx⟩:∃z,z=h.next:=⟨_,rfl⟩;rw[<-enx]at o1 ⊢;obtain⟨cq,IJ⟩:∃z,z=az 1 q:=⟨_,rfl⟩;rw[<-IJ];refine zc ?_;refine E5 hA Bd (n:=q) IJ om (i:=I) om om (fun c'=>?_);rw[show 0+I.toNat*1=i by omega,show q-I.toNat=q-i by omega];obtain⟨m1,em1⟩:∃z,z=q-i:=⟨_,rfl⟩;rw[<-em1];refine zc ?_;rw[H3 hA];have zG:=hv.ext x1 UR;obtain⟨h2,k1,k2,k3⟩:=tY (m:=m1) (c:=c') (cp:=1) (ns:=1) (o:=i) (k:=1) (l:=[v]) (a:=⟨vb,0,none⟩) o1 (by show min 1 m1=1;omega) (zG.aN (o:=0) (n:=1) (by simp)) rfl om (by simp[TV]);refine⟨_,h2,k1,?_⟩;refine zc ?_;have e5:arith .add .i64 I 1=I+1:=aG hA om om;rw[e5];refine E5 hA Bd (n:=q) IJ om (i:=I+1) om om (fun c2=>?_);rw[show 0+(I+1).toNat*1=i+1 by omega,show q-(I+1).toNat=n-i by omega];obtain⟨m2,RA⟩:∃z,z=n-i:=⟨_,rfl⟩;obtain⟨i1,NV⟩:∃z,z=i+1:=⟨_,rfl⟩;rw[<-RA,<-NV];refine zc ?_;refine II hA Bd om eI hi ?_;rw[show 0+i*1=i by omega,<-RA];refine zc ?_;rw[H3 hA,j7 hA,mV hA];have YI:ct (h2.aH 9).dO b 1 cs:=k3.own (hm.ext x1 hb) om;have o2:ct (h2.aH 9).dO nx 1 (xs.take i++([v]++xs.drop (i+1))):=k2;obtain⟨h3,p1,p2,p3⟩:=tY (m:=m2) (c:=c2) (cp:=m2) (ns:=m2) (o:=i1) (k:=m2) (l:=cs.drop i) (a:=⟨b,i,none⟩) o2 (Nat.min_self _) (by rw[YI.aN om,List.take_of_length_le (by simp;omega)]) (by simp;omega) (by simp;omega) (by rw[List.all_eq_true]at fF ⊢;exact fun v hv=>fF v (List.mem_of_mem_drop hv));refine⟨_,h3,p1,?_⟩;obtain⟨k,ek⟩:∃z:Int,z=m2:=⟨_,rfl⟩;rw[<-ek];refine zc ?_;refine⟨.inr trivial,_,rfl,rfl,?_⟩;rw[IJ,eq];have hxt:xs.take i=cs.take i:=by rw[exs,List.take_append_of_le_length (by simp;omega),List.take_take,Nat.min_self]
 have Vc:(xs.take i++([v]++xs.drop (i+1))).take i1++(cs.drop i++(xs.take i++([v]++xs.drop (i+1))).drop (i1+m2))=cs.take i++v :: cs.drop i:=by
  have z1:(xs.take i++([v]++xs.drop (i+1))).drop (i1+m2)=[]:=List.drop_eq_nil_of_le (by simp[hxl];omega);have z2:(xs.take i++([v]++xs.drop (i+1))).take i1=cs.take i++[v]:=by
   rw[<-List.append_assoc,List.take_append_of_le_length (by simp[hxl];omega),List.take_of_length_le (by simp[hxl];omega),hxt]
  rw[z1,z2];simp
 rw[Vc]at p2;refine hR nx _ ?_ om ?_ ?_
 ·rw[fv hA];exact p2
 ·rw[fv hA]
  show nx<h3.next;rw[p3.next];show nx<h2.next+9;rw[k3.next,YH];show nx<h.next+1+9;omega
 ·rw[fv hA]
  show h.next<=Nat.min h2.low h3.low;have q1:h.next<=h2.low:=by rw[k3.low,YH];show h.next<=Nat.min h.low nx;exact Nat.le_min.2 ⟨om,om⟩
  have q2:h.next<=h3.low:=by
   rw[p3.low];show h.next<=Nat.min (h2.next+9) nx;have:h2.next=h.next+1:=by rw[k3.next,YH];rfl
   exact Nat.le_min.2 ⟨om,om⟩
  exact Nat.le_min.2 ⟨q1,q2⟩
theorem ua{t:TypeId}{e es:Nat}(hT:gA Tryz.prog t e es){b o n m c:Nat}(ec:c=az es m)(hn:m<=1000000)(Yu:n<=m){k:IntKind}{I:Int}{i:Nat}(eI:I=i)(i1:i<n){C:Option Addr->Nat->Nat->Prop}
  (h:∀c',C (some ⟨b,o+i*es,none⟩) (n-i) c'):BS t (.slice (some ⟨b,o,none⟩) n c) (some (.int k I)) none none C:=by
 subst eI;subst ec;have tZ:BS t (.slice (some ⟨b,o,none⟩) n (az es m)) (some (.int k i)) none none C = ∃a' n' c',gO Tryz.prog t (.slice (some ⟨b,o,none⟩) n (az es m)) (some (.int k i)) none none=some (.slice a' n' c')/\C a' n' c':=by have:=hA.eq;injections;subst_vars;rfl
 rw[tZ];have hs:m<aS:=by unfold aS;omega
 by_cases c:i=0
 ·subst c
  have h:=h (az es m);rw[show o+0*es=o by simp,Nat.sub_zero]at h;refine⟨_,_,_,?_,h⟩;unfold gO;simp only[hT.yE,hT.size];unfold lL;simp only[gH,iM,ik,bound,cA hs];rw[if_pos ⟨om,om⟩];simp only[bz Yu,cJ (dB es m),cond_true,cond_false,Option.isSome_none,Bool.or_false];rfl
 ·refine⟨_,_,_,?_,h (az es (m-i))⟩
  unfold gO;simp only[hT.yE,hT.size];unfold lL;simp only[gH,iM,ik,bound,cA hs];rw[if_pos ⟨om,om⟩];simp only[bz Yu,cJ (dB es m),cond_true,cond_false,Option.isSome_none,Bool.or_false,kg hs];rw[Ke (show(i:Int).toNat≠0 by omega),eE (show(i:Int).toNat<m by omega)];simp[gi]
set_option maxHeartbeats 1000000 in
theorem N4(hF:dC Tryz.prog F)(hov:∀a b h',jS a b=some h'->F 108 a b=some h'){h:af}(ar:h.low=h.next){b vb n i:Nat}{I:Int}(eI:I=i){cs:List Value}{v:Value}(hb:b<h.next)(hm:ct h b 1 (cs++[.chan none]))(hl:cs.length=n)(UR:vb<h.next)(eO:b≠vb)(hv:ct h vb 1 [v])(hi:i<n)(hn:n<=1000)(fF:cs.all aF=true)(TV:aF v=true){R:Value->af->Prop}
  (hR:∀h',ct h' b 1 (cs.take i++v :: cs.drop i)->h.next<=h'.next->(∀k,k≠b->h'.m.get k=h.m.get k)->b<=h'.low->R (.slice (some ⟨b,0,none⟩) (n+1) (az 1 (n+1))) h') :
  rI progU Tryz.f90.ntmps TT ⟨rT [.slice (some ⟨b,0,none⟩) n (az 1 (n+1)),.int .i64 I,.slice (some ⟨vb,0,none⟩) 1 1] 0 [],0,[],h⟩ (fun e s'=>(e=.normal\/e=.ret)/\∃v,lk s'.env 6=some v/\dA v=true/\R v s'.h):=by
 have run:=fun {c:Code} {s:SS} {Q:Exit->SS->Prop} (hl:bF c=[]) (hr:bG c=[])=>rI.run hA.toAOK live mixed hF named Tryz.func90 wR (c:=c) hl hr (s:=s) (Q:=Q)
 have e1:ofNat 1=1:=aJ hA 1;obtain⟨N,eN⟩:∃z:Int,z=n:=⟨_,rfl⟩;have e2:ofNat n=N:=by rw[eN];exact aJ hA n
 obtain⟨q,eq⟩:∃z,z=n+1:=⟨_,rfl⟩;obtain⟨cq,IJ⟩:∃z,z=az 1 q:=⟨_,rfl⟩;rw[<-eq,<-IJ];refine rI.seq (run rfl rfl (zc ?_));refine rI.seq (run rfl rfl (zc ?_));refine ua hA Bd (m:=q) IJ om om eI hi (fun c'=>?_);refine zc ?_;refine rI.seq (run rfl rfl (zc ?_));rw[e1];refine rI.seq (run rfl rfl (zc ?_));rw[show cmp .eql 1 0=false by rw[cY hA];rfl];refine zc ?_;refine rI.seq (run rfl rfl (zc ?_));rw[e2];refine rI.seq (run rfl rfl (zc ?_));rw[show cmp .eql I N=false by rw[cY hA];simp;omega];refine zc ?_;refine rI.VX (env0:=[(0,.slice (some ⟨b,0,none⟩) n cq),(1,.int .i64 I),(2,.slice (some ⟨vb,0,none⟩) 1 1),(7,.int .i64 1),(8,.int .i64 N)]) (fun p hp=>?_) ?_
 ·simp only[List.mem_cons,List.not_mem_nil,or_false]at hp
  rcases hp with rfl|rfl|rfl|rfl|rfl<;>rfl
 refine rI.seq (rI.seq (rI.room (n:=n) (b:=b) (off:=0) (k:=cq) (by decide) rfl rfl rfl rfl rfl rfl rfl rfl rfl rfl rfl rfl rfl rfl rfl rfl rfl rfl rfl Bd.yE (by rw[eN];rfl) rfl rfl (fun p hp=>?_) hn (by rw[IJ,cA (by unfold aS;omega)];omega) ?_))
 ·simp only[List.mem_cons,List.not_mem_nil,or_false]at hp
  rcases hp with rfl|rfl|rfl|rfl|rfl<;>simp
 refine run rfl rfl (zc ?_);refine run rfl rfl (zc ?_);have e3:arith .add .i64 N 1=q:=by rw[aG hA om om];omega
 rw[e3];obtain⟨qI,eqI⟩:∃z:Int,z=q:=⟨_,rfl⟩;rw[<-eqI];refine⟨by rw[Mu hA,IJ,cA (by unfold aS;omega)];omega,?_⟩;refine zc ?_;rw[show nat qI=q by rw[H2 hA];omega];have e5:arith .add .i64 I 1=I+1:=aG hA om om;rw[e5];obtain⟨I1,eI1⟩:∃z:Int,z=I+1:=⟨_,rfl⟩;rw[<-eI1];refine ua hA Bd (n:=q) (m:=q) IJ om om (i:=i+1) om om (fun c2=>?_);rw[show 0+(i+1)*1=i+1 by omega,show q-(i+1)=n-i by omega];obtain⟨m2,RA⟩:∃z,z=n-i:=⟨_,rfl⟩;obtain⟨i1,NV⟩:∃z,z=i+1:=⟨_,rfl⟩;rw[<-RA,<-NV];refine zc ?_;have ov:F 108 [.slice (some ⟨vb,0,none⟩) 1 1,.slice (some ⟨b,i1,none⟩) m2 c2] h=some (.bool false,h):=by
  refine hov _ _ _ ?_;unfold jS;have q1:h.m.get vb=some (.live true 1 [v]):=hv;obtain⟨z,zs,hz⟩:∃z zs,cs++[.chan none]=z :: zs:=by
   cases cs with
   |nil=>exact⟨_,_,rfl⟩
   |cons z zs=>exact⟨_,_,rfl⟩
  have q2:h.m.get b=some (.live true 1 (z :: zs)):=by rw[<-hz];exact hm
  simp only[q1,q2];rw[Ke (fun e=>eO e.symm)];rfl
 refine hA.Mf ov ?_;refine⟨false,rfl,?_⟩;refine zc ?_;rw[show fD false=true by rw[cB hA];rfl];refine zc ?_;rw[e5,<-eI1];refine ua hA Bd (n:=q) (m:=q) IJ om om (i:=i1) om om (fun c3=>?_);rw[show 0+i1*1=i1 by omega,show q-i1=m2 by omega];refine zc ?_;refine ua hA Bd (n:=q) (m:=q) IJ om om (i:=i) eI om (fun c4=>?_);obtain⟨m3,Yk⟩:∃z,z=q-i:=⟨_,rfl⟩;rw[show 0+i*1=i by omega,<-Yk];refine zc ?_;have al:∀l:List Value,(∀v∈l,v∈cs)->l.all aF=true:=fun l q=>by rw[List.all_eq_true]at fF ⊢;exact fun v hv=>fF v (q v hv)
 rw[H3 hA,j7 hA,mV hA];have YI:ct (h.aH 9).dO b 1 (cs++[.chan none]):=hm;have Lp:(cs++[Value.chan none]).length=n+1:=by simp[hl]
 obtain⟨h3,p1,p2,p3⟩:=tY (m:=m2) (c:=c3) (cp:=c4) (ns:=m3) (o:=i1) (k:=m2) (l:=cs.drop i) (a:=⟨b,i,none⟩) YI (by show min m3 m2=m2;omega) (by rw[YI.aN om,List.drop_append_of_le_length om,List.take_append_of_le_length (by simp;omega),List.take_of_length_le (by simp;omega)]) (by simp;omega) om (al _ (fun v hv=>List.mem_of_mem_drop hv));refine⟨_,h3,p1,?_⟩;obtain⟨k,ek⟩:∃z:Int,z=m2:=⟨_,rfl⟩;rw[<-ek];obtain⟨ys,YJ⟩:∃z,z=(cs++[Value.chan none]).take i1++(cs.drop i++(cs++[Value.chan none]).drop (i1+m2)):=⟨_,rfl⟩;rw[<-YJ]at p2;have yl:ys.length=n+1:=by rw[YJ];simp;omega
 refine zc ?_;rw[fv hA];generalize YK:h3.aB _=h4;have o4:ct h4 b 1 ys:=by rw[<-YK];exact p2
 have n4:h4.next=h.next+9:=by rw[<-YK];show h3.next=_;rw[p3.next];rfl
 have g4:∀k,k≠b->h4.m.get k=h.m.get k:=fun k hk=>by rw[<-YK];exact p3.get k hk
 have l4:b<=h4.low:=by
  rw[<-YK];show b<=Nat.min h.low h3.low;rw[p3.low];show b<=Nat.min h.low (Nat.min (h.next+9) b);exact Nat.le_min.2 ⟨om,Nat.le_min.2 ⟨om,Nat.le_refl _⟩⟩
 refine ua hA Bd (n:=q) (m:=q) IJ om om (i:=i) eI om (fun c5=>?_);rw[show 0+i*1=i by omega,<-Yk];refine zc ?_;rw[H3 hA];obtain⟨h5,r1,r2,r3⟩:=tY (m:=m3) (c:=c5) (cp:=1) (ns:=1) (o:=i) (k:=1) (l:=[v]) (a:=⟨vb,0,none⟩) o4 (by show min 1 m3=1;omega) ((hv.gQ (g4 vb (fun e=>eO e.symm))).aN (o:=0) (n:=1) (by simp)) rfl om (by simp[TV]);refine⟨_,h5,r1,?_⟩;refine zc ?_;refine⟨.inr trivial,_,rfl,rfl,?_⟩;rw[IJ,eq];have hxt:ys.take i=cs.take i:=by rw[YJ,List.take_append_of_le_length (by simp;omega),List.take_take,Nat.min_eq_left om,List.take_append_of_le_length om]
 have hyd:ys.drop (i+1)=cs.drop i:=by
  have z1:(cs++[Value.chan none]).drop (i1+m2)=[]:=List.drop_eq_nil_of_le (by simp;omega);rw[YJ,z1,List.append_nil,List.drop_append_of_le_length (by simp;omega),List.drop_eq_nil_of_le (by simp;omega),List.nil_append]
 rw[hxt,hyd]at r2;refine hR h5 r2 (by rw[r3.next,n4];omega) (fun k hk=>by rw[r3.get k hk,g4 k hk]) ?_;rw[r3.low];exact Nat.le_min.2 ⟨l4,Nat.le_refl _⟩
end Go.Proofs.YtdpbiegfljmhmaaGreat
namespace Go.Proofs.YtdpbiegfljmhmaaGreat
open Go.cV
set_option maxRecDepth 100000
theorem Kr:dC Tryz.prog ss:=AQ (Go.cV.tx Tryz.func103 (named _ _ Tryz.func103) (by kernel_rfl) (by kernel_rfl) (by kernel_rfl)) (AQ (Go.cV.nu Tryz.func105 (named _ _ Tryz.func105) (by kernel_rfl) (by kernel_rfl) (by kernel_rfl)) Gb)
theorem E6:aX ss:=vy (vy BO)
theorem zL1(w:World):(Go.sizeOf 28).run Tryz.prog w=.ok 1 w:=cg (by kernel_rfl)
theorem vc:dC Tryz.prog qq:=Eb Kr (Ak (tS:=22) (tR:=4) Tryz.func108 (named _ _ Tryz.func108) (by kernel_rfl) (by kernel_rfl) (by kernel_rfl) Bd.yE zL1)
theorem vS:aX qq:=yH yI E6
theorem uc(g:FuncId)(args:List Value)(h:af)(hg:own g=false):qq g args h=ss g args h:=by
 unfold own at hg;simp only[Bool.or_eq_false_iff]at hg;unfold qq ql;rw[hg.2];rfl
theorem Hb(args:List Value)(h:af)(r:Value)(h':af)(hc:jA args h=some (r,h'))(G:Nat->Option cV.Loc)(w:World)(aU:List Value)(hR:HR ⟨G,fun _=>none⟩ (iC h) w)(hA:fJ G args aU) :
  te Tryz.prog 90 aU.toArray w (fun c w'=>∃G',VG G' r c/\Good ⟨G,fun _=>none⟩ (iC h) w ⟨G',fun _=>none⟩ (iC h') w'/\fG (h.next<=·) G G'):=by
 obtain⟨b,n,i,vb,cs,v,rfl,m1,m2,hl,hi,hd,EV,eO,hn,rfl,rfl⟩:=ou hc;have hB:AP qq (bk Tryz.prog hint qq):=⟨⟨rfl,vS⟩,uc⟩;have okh:∀v,Aj v=true->aF v=true:=fun v hv=>by obtain⟨_,_,_,_,rfl⟩:=AV hv;rfl
 have okc:cs.all aF=true:=by rw[List.all_eq_true]at hd ⊢;exact fun v hv=>okh v (hd v hv)
 obtain⟨x1,l1,rfl,g1,UZ⟩:=hA.head;obtain⟨x2,l2,rfl,g2,hA2⟩:=UZ.head;obtain⟨x3,l3,rfl,g3,hA3⟩:=hA2.head;obtain rfl:l3=[]:=List.eq_nil_of_length_eq_zero hA3.1.symm;have vgs:∀{G':Nat->Option cV.Loc} {a:Value},(∀id L,G id=some L->G' id=some L)->VG G' a x1->fJ G' [a,.int .i64 (Int.ofNat i),.slice (some ⟨vb,0,none⟩) 1 1] [x1,x2,x3]:=fun hm q=>⟨rfl,fun j u z hu hz=>by
  match j with
  |0=>simp at hu hz;subst hu;subst hz;exact q
  |1=>simp at hu hz;subst hu;subst hz;exact g2.mono hm
  |2=>simp at hu hz;subst hu;subst hz;exact g3.mono hm
  |j+3=>simp at hu⟩
 have UR:vb<h.next:=by
  rcases g3.dV with ⟨_,L3,_,W7,_⟩|⟨_,⟨x,hx⟩,_⟩
  ·exact hR.cU _ _ W7
  ·cases hx
 obtain⟨L3,W7⟩:∃L3,G vb=some L3:=by
  rcases g3.dV with ⟨_,L3,_,W7,_⟩|⟨_,⟨x,hx⟩,_⟩
  ·exact⟨L3,W7⟩
  ·cases hx
 rcases g1.dV with ⟨_,L,c',hL,rfl,hk⟩|⟨_,⟨x,hx⟩,_⟩
 rotate_left
 ·cases hx
 have hL:G b=some L:=hL;have hb:b<h.next:=hR.cU _ _ hL;obtain⟨U1,ccs,ce,cf,k2,k3,k4⟩:=hR.cK b L _ hL m1;have hs:n<aS:=by unfold aS;omega
 obtain⟨hnc,Jc⟩:n<=c'/\L.o+c'<=L.AD:=by
  rcases hk with ⟨q,_⟩|⟨m,q1,_,q2,q3⟩
  ·exact absurd q (by unfold az;omega)
  ·rw[U1]at q1 q3
   unfold az at q1;have W8:L.o+0+c'*1<=L.AD:=q3;omega
 have Ye:∀u∈cs.take i++v :: cs.drop i,∃a len k L1,u=.slice (some a) len k/\a.spot=none/\G a.block=some L1:=by
  have one:∀u,Aj u=true->(∃c,VG G u c)->∃a len k L1,u=.slice (some a) len k/\a.spot=none/\G a.block=some L1:=fun u hu ⟨c,hc⟩=>by
   obtain⟨bb,o,len,k,rfl⟩:=AV hu;rcases hc.dV with ⟨_,L1,_,KM,_⟩|⟨_,⟨x,hx⟩,_⟩
   ·exact⟨_,_,_,L1,rfl,rfl,KM⟩
   ·cases hx
  intro u hu;have:u∈cs\/u=v:=by
   rcases List.mem_append.1 hu with q|q
   ·exact .inl (List.mem_of_mem_take q)
   ·rcases List.mem_cons.1 q with q|q
    ·exact .inr q
    ·exact .inl (List.mem_of_mem_drop q)
  rcases this with q|rfl
  ·obtain⟨j,hj,rfl⟩:=List.getElem_of_mem q
   obtain⟨c,_,z⟩:=k3 j _ (List.getElem?_eq_getElem hj);exact one _ (List.all_eq_true.1 hd _ q) ⟨c,z⟩
  ·obtain⟨_,_,_,_,_,z3,_⟩:=hR.cK vb L3 _ W7 m2
   obtain⟨c,_,z⟩:=z3 0 u rfl;exact one _ EV ⟨c,z⟩
 have fin:∀{G2:Nat->Option cV.Loc} {L2:cV.Loc} {c3:Nat},G2 h.next=some L2->L2.es=1->n+1<=c3->L2.o+c3<=L2.AD->VG G2 (.slice (some ⟨h.next,0,none⟩) (n+1) (az 1 (n+1))) (.slice (some ⟨L2.b,L2.o+0,none⟩) (n+1) c3):=fun {G2 L2 c3} e1 e2 e3 e4=>by
  have:=VG.gZ (g:=G2) ⟨h.next,0,none⟩ L2 (n+1) (n+1) c3 rfl e1 e3 (by unfold aS;omega) (by rw[e2];show L2.o+0+c3*1<=L2.AD;omega);rw[e2]at this;exact this
 by_cases hH:n+1<=c'
 ·
  obtain⟨hh,YL⟩:∃z,z=({ h with m:=h.m.set b (.live true 1 (cs++[.chan none])) }:af):=⟨_,rfl⟩;have UL:HR ⟨G,fun _=>none⟩ (iC hh) w:=by rw[YL];exact hR.room hL m1 om
  have gk:∀k,k≠b->hh.m.get k=h.m.get k:=fun k hk=>by rw[YL];show(h.m.set b _).get k=_;rw[cW.aT _ _ (fun e=>hk e.symm)]
  have nn:hh.next=h.next:=by rw[YL]
  have ob:ct hh.Mg b 1 (cs++[.chan none]):=by show hh.m.get b=_;rw[YL];show(h.m.set b _).get b=_;rw[cW.gY]
  have ov:ct hh.Mg vb 1 [v]:=(gk vb (fun e=>eO e.symm)).trans m2;have vg1:VG G (.slice (some ⟨b,0,none⟩) n (az 1 (n+1))) (.slice (some ⟨L.b,L.o+0,none⟩) n c'):=by
   have:=VG.gZ (g:=G) ⟨b,0,none⟩ L n (n+1) c' rfl hL hH (by unfold aS;omega) (by rw[U1];show L.o+0+c'*1<=L.AD;omega);rw[U1]at this;exact this
  have wn:=N4 hB vc (fun a b r q=>by unfold qq ql;rw[Nat.beq_refl];simp only[cond_true,q]) (h:=hh.Mg) rfl (I:=Int.ofNat i) rfl (by show b<hh.next;omega) ob hl (by show vb<hh.next;omega) eO ov hi hn okc (okh v EV)
   (R:=fun u Bm=>u=.slice (some ⟨b,0,none⟩) (n+1) (az 1 (n+1))/\ct Bm b 1 (cs.take i++v :: cs.drop i)/\(∀k,k≠b->Bm.m.get k=hh.m.get k)/\b<=Bm.low) (fun Bm q1 _ q2 q3=>⟨rfl,q1,q2,q3⟩)
  refine(rI.PG (P:=progU) (R:=fun u Bm=>u=.slice (some ⟨b,0,none⟩) (n+1) (az 1 (n+1))/\ct Bm b 1 (cs.take i++v :: cs.drop i)/\(∀k,k≠b->Bm.m.get k=hh.m.get k)/\b<=Bm.low) Tryz.func90 wR (named _ _ Tryz.func90) rfl (Nat.le_refl _) wn (Mh UL) (vgs (fun _ _ q=>q) vg1)).mono (fun c w'=>?_);rintro⟨u,Bm,G',⟨rfl,q1,q2,q3⟩,hv,hG,_⟩;obtain⟨G2,f1,f2,f3,f4⟩:=Good.Rn hR hb hG (hG.mono _ _ hL) q1 (fun k L1 di kb hk hm=>BR.back hG.mono (hR.cK k L1 di hk hm) (hG.hr.cK k L1 di (hG.mono _ _ hk) (by show Bm.m.get k=_;rw[q2 k kb,gk k kb];exact hm)))
   (fun k L1 di kb hk hm ha e=>kb (hR.dn k b L1 L di _ hk hL hm m1 ha rfl e)) (.inr hL) (Nat.le_trans (Nat.min_le_right _ _) q3) Ye
  refine⟨G2,?_,f3,f4⟩;rcases hv.dV with ⟨_,L2,c3,HL,rfl,K7⟩|⟨_,⟨x,hx⟩,_⟩
  rotate_left
  ·cases hx
  have e:G' b=some L:=hG.mono _ _ hL;have HL:G' b=some L2:=HL;rw[HL]at e;obtain rfl:=Option.some.inj e;refine fin f1 U1 ?_ ?_
  ·rcases K7 with ⟨q,_⟩|⟨m,q1,_,q2,q3⟩
   ·exact absurd q (by unfold az;omega)
   ·rw[U1]at q1;unfold az at q1;omega
  ·rcases K7 with ⟨q,_⟩|⟨m,q1,_,q2,q3⟩
   ·exact absurd q (by unfold az;omega)
   ·rw[U1]at q3
    have W8:L2.o+0+c3*1<=L2.AD:=q3;omega
 ·obtain rfl:c'=n:=om
  have vg1:VG G (.slice (some ⟨b,0,none⟩) c' c') (.slice (some ⟨L.b,L.o+0,none⟩) c' c'):=.gP _ L _ _ rfl hL hs;have wn:=N3 hB vc (h:=h.Mg) rfl (I:=Int.ofNat i) rfl hb m1 hl UR m2 hi hn okc (okh v EV)
   (R:=fun u Bm=>∃b2,u=.slice (some ⟨b2,0,none⟩) (c'+1) (az 1 (c'+1))/\ct Bm b2 1 (cs.take i++v :: cs.drop i)/\h.next<=b2/\h.next<=Bm.low) (fun b2 Bm q1 q2 _ q3=>⟨b2,rfl,q1,q2,q3⟩)
  refine(rI.PG (P:=progU) (R:=fun u Bm=>∃b2,u=.slice (some ⟨b2,0,none⟩) (c'+1) (az 1 (c'+1))/\ct Bm b2 1 (cs.take i++v :: cs.drop i)/\h.next<=b2/\h.next<=Bm.low) Tryz.func90 wR (named _ _ Tryz.func90) rfl (Nat.le_refl _) wn (Mh hR) (vgs (fun _ _ q=>q) vg1)).mono (fun c w'=>?_);rintro⟨u,Bm,G',⟨b2,rfl,q1,q2,q3⟩,hv,hG,_⟩;rcases hv.dV with ⟨_,L2,c3,HL,rfl,K7⟩|⟨_,⟨x,hx⟩,_⟩
  rotate_left
  ·cases hx
  have HL:G' b2=some L2:=HL;obtain⟨Wh,_⟩:=hG.hr.cK b2 L2 _ HL q1;have hGb:G b2=none:=by
   cases hx:G b2 with
   |none=>rfl
   |some L1=>have:b2<h.next:=hR.cU b2 L1 hx;omega
  have pe:w.heap.size<=L2.b:=by
   rcases hG.fresh b2 L2 HL hGb with h1|⟨Fm,L0,h1,h2,h3⟩
   ·exact h1
   ·have h4:Fm<h.next:=hR.cU Fm L0 h1
    have h5:Bm.low<=Fm:=h3;omega
  obtain⟨G2,f1,f2,f3,f4⟩:=Good.Rn hR hb hG HL q1 (fun k L1 di kb hk hm=>by
   rw[hG.frame L1.b (hR.lt hk) (fun id L4 h0 _=>Nat.lt_of_lt_of_le (hR.cU id L4 h0) q3) (fun t L h=>by cases h)];exact hR.cK k L1 di hk hm) (fun k L1 di kb hk hm ha e=>by have:=hR.lt hk;omega) (.inl pe) (Nat.le_trans (Nat.min_le_right _ _) (by show b<=Bm.low;omega)) Ye
  refine⟨G2,?_,f3,f4⟩;refine fin f1 Wh ?_ ?_
  ·rcases K7 with ⟨q,_⟩|⟨m,q1,_,q2,q3⟩
   ·exact absurd q (by unfold az;omega)
   ·rw[Wh]at q1;unfold az at q1;omega
  ·rcases K7 with ⟨q,_⟩|⟨m,q1,_,q2,q3⟩
   ·exact absurd q (by unfold az;omega)
   ·rw[Wh]at q3
    have W8:L2.o+0+c3*1<=L2.AD:=q3;omega
theorem uZ:dC Tryz.prog gR:=Eb vc Hb
theorem mK:aX gR:=yH B6 vS
theorem zt:aX vD:=Aa mK
structure Hd where
 a:Option Addr
 n:Nat
 c:Nat
 deriving Inhabited
def Hd.cells(k:Hd):List Value:=[.slice k.a k.n k.c]
theorem iF(k:Hd):k.cells.length=1:=rfl
theorem IK(k:Hd):k.cells.all aF=true:=rfl
structure pz{α:Type}[Inhabited α](enc:α->List Value)(es:Nat)(h:af)(a:Option Addr)(N:Nat)(hs:List Hd)(g:List (List α)):Prop where
 hd:Rows Hd.cells 1 h a N hs
 len:g.length=N
 row:∀y:Int,0<=y->y<N->Rows enc es h (gt hs y).a (gt hs y).n (gt g y)
theorem pz.ext{α:Type}[Inhabited α]{enc:α->List Value}{es:Nat}{h h':af}{a:Option Addr}{N:Nat}{hs:List Hd}{g:List (List α)}(t:pz enc es h a N hs g)(e:Ext h h'):pz enc es h' a N hs g:=⟨t.hd.ext e,t.len,fun y y0 y1=>(t.row y y0 y1).ext e⟩
theorem pz.u5{α:Type}[Inhabited α]{enc:α->List Value}{es:Nat}{h:af}{a:Option Addr}{N:Nat}{hs:List Hd}{g:List (List α)}(t:pz enc es h a N hs g){y:Int}(y0:0<=y)(y1:y<N):(gt g y).length=(gt hs y).n:=(t.row y y0 y1).len
def dk{α:Type}(cp:Nat)(bs:List Nat)(g:List (List α)):List Hd:=List.zipWith (fun b r=>⟨some ⟨b,0,none⟩,r.length,cp⟩) bs g
def kR{α:Type}(f:Nat->α)(n:Nat):List α:=(List.range n).map f
theorem bP{α:Type}(f:Nat->α)(n:Nat):(kR f n).length=n:=by unfold kR;simp
theorem jV{α:Type}(f:Nat->α){n i:Nat}(h:i<n):(kR f n)[i]?=some (f i):=by unfold kR;simp[h]
theorem fU{α:Type}[Inhabited α](f:Nat->α){n i:Nat}(h:i<n):gt (kR f n) (i:Int)=f i:=by
 unfold gt;rw[List.getD_eq_getElem?_getD,show((i:Int)).toNat=i from rfl,jV f h];rfl
theorem wN{α:Type}(f:Nat->α)(n i:Nat)(v:α):(kR f n).set i v=kR (fun j=>if j=i then v else f j) n:=by
 apply List.ext_getElem?;intro j;rw[List.getElem?_set,bP];by_cases c:j<n
 ·rw[jV _ c,jV _ c]
  by_cases e:i=j
  ·subst e;simp[c]
  ·rw[if_neg e,if_neg (fun q=>e q.symm)]
 ·have e1:(kR f n)[j]?=none:=List.getElem?_eq_none (by rw[bP];omega)
  have e2:(kR (fun j=>if j=i then v else f j) n)[j]?=none:=List.getElem?_eq_none (by rw[bP];omega);rw[e1,e2];split
  ·rw[if_neg om]
  ·rfl
theorem iq{α:Type}{f g:Nat->α}{n:Nat}(h:∀i,i<n->f i=g i):kR f n=kR g n:=by
 unfold kR;exact List.map_congr_left (fun i hi=>h i (List.mem_range.1 hi))
theorem nH{α:Type}(f:Nat->α)(n:Nat):kR f (n+1)=kR f n++[f n]:=by
 unfold kR;rw[List.range_succ,List.map_append];rfl
def Iv(a b i:Nat):Nat:=if i=a then b else if i=b then a else i
theorem vP(g:FuncId)(args:List Value)(h:af)(hg:own g=false):gR g args h=ss g args h:=by
 have vW:=hg;unfold own at hg;simp only[Bool.or_eq_false_iff]at hg;unfold gR ql;rw[hg.1.2];exact uc g args h vW
structure Fc where
 n:Int
 d:Int
 deriving Inhabited
def fC(x:Fc):List Value:=[.int .i64 x.n,.int .i64 x.d]
theorem ve(x:Fc):(fC x).length=2:=rfl
theorem N5(x:Fc):(fC x).all aF=true:=rfl
def cH(x:Fc):Prop:=okF x.n x.d/\0<=x.n/\x.n<x.d
def GZ(g:List (List Int)):Prop:=4<g.length\/∃i:Int,0<=i/\i<g.length/\4<(gt g i).length
structure Good(g:List (List Int))(B:List Fc):Prop where
 m1:0<g.length
 n1:0<(gt g 0).length
 len:B.length=g.length
 row:∀i:Int,0<=i->i<g.length->(gt g i).length=(gt g 0).length
 TB:∀i:Int,0<=i->i<g.length->∀j:Int,0<=j->j<(gt g i).length->-9<=gt (gt g i) j/\gt (gt g i) j<=9
 turn:∀i:Int,0<=i->i<B.length->cH (gt B i)/\(gt B i).d<=60
def ic(g:List (List Int))(B:List Fc)(e:Int):Prop:=(GZ g/\e=4)\/(¬GZ g/\Good g B/\e=0)\/(¬GZ g/\¬Good g B/\e=8)
theorem ic.uniq{g:List (List Int)}{B:List Fc}{e e':Int}(h:ic g B e)(h':ic g B e'):e=e':=by
 rcases h with ⟨a,rfl⟩|⟨a,b,rfl⟩|⟨a,b,rfl⟩<;>rcases h' with ⟨c,rfl⟩|⟨c,d,rfl⟩|⟨c,d,rfl⟩
 all_goals first|rfl|(exfalso;first|exact a c|exact c a|exact b d|exact d b)
theorem ic.ph{g:List (List Int)}{B:List Fc}(h:ic g B 0):Good g B/\¬GZ g:=by
 rcases h with ⟨_,q⟩|⟨a,b,_⟩|⟨_,_,q⟩
 ·omega
 ·exact⟨b,a⟩
 ·omega
theorem pz.jJ{α:Type}[Inhabited α]{enc:α->List Value}{es:Nat}{h:af}{a:Option Addr}{N:Nat}{hs:List Hd}{g:List (List α)}(t:pz enc es h a N hs g){i:Int}(i0:0<=i)(i1:i<N):∃b o,a=Option.some ⟨b,o,none⟩/\b<h.next/\h.aN ⟨b,o+i.toNat*1,none⟩ 1=Option.some [.slice (gt hs i).a (gt hs i).n (gt hs i).c]:=by
 obtain⟨b,o,e,l,q⟩:=t.hd.at i0 i1;exact⟨b,o,e,l,q 0 1 om om⟩
structure zm{α:Type}[Inhabited α](enc:α->List Value)(es:Nat)(h:af)(a:Option Addr)(N:Nat)(hs:List Hd)(g:List (List α)):Prop where
 hd:Rows Hd.cells 1 h a N hs
 len:g.length=N
 row:∀y:Int,0<=y->y<N->(gt g y).length=(gt hs y).n/\(0<(gt hs y).n->Rows enc es h (gt hs y).a (gt hs y).n (gt g y))
theorem zm.ext{α:Type}[Inhabited α]{enc:α->List Value}{es:Nat}{h h':af}{a:Option Addr}{N:Nat}{hs:List Hd}{g:List (List α)}(t:zm enc es h a N hs g)(e:Ext h h'):zm enc es h' a N hs g:=⟨t.hd.ext e,t.len,fun y y0 y1=>⟨(t.row y y0 y1).1,fun q=>((t.row y y0 y1).2 q).ext e⟩⟩
theorem zm.u5{α:Type}[Inhabited α]{enc:α->List Value}{es:Nat}{h:af}{a:Option Addr}{N:Nat}{hs:List Hd}{g:List (List α)}(t:zm enc es h a N hs g){y:Int}(y0:0<=y)(y1:y<N):(gt g y).length=(gt hs y).n:=(t.row y y0 y1).1
theorem zm.jJ{α:Type}[Inhabited α]{enc:α->List Value}{es:Nat}{h:af}{a:Option Addr}{N:Nat}{hs:List Hd}{g:List (List α)}(t:zm enc es h a N hs g){i:Int}(i0:0<=i)(i1:i<N):∃b o,a=Option.some ⟨b,o,none⟩/\b<h.next/\h.aN ⟨b,o+i.toNat*1,none⟩ 1=Option.some [.slice (gt hs i).a (gt hs i).n (gt hs i).c]:=by
 obtain⟨b,o,e,l,q⟩:=t.hd.at i0 i1;exact⟨b,o,e,l,q 0 1 om om⟩
theorem zm.full{α:Type}[Inhabited α]{enc:α->List Value}{es:Nat}{h:af}{a:Option Addr}{N:Nat}{hs:List Hd}{g:List (List α)}(t:zm enc es h a N hs g)(p:∀y:Int,0<=y->y<N->0<(gt g y).length):pz enc es h a N hs g:=
 ⟨t.hd,t.len,fun y y0 y1=>(t.row y y0 y1).2 (by rw[<-t.u5 y0 y1];exact p y y0 y1)⟩
theorem pz.TW{α:Type}[Inhabited α]{enc:α->List Value}{es:Nat}{h:af}{a:Option Addr}{N:Nat}{hs:List Hd}{g:List (List α)}(t:pz enc es h a N hs g):zm enc es h a N hs g:=
 ⟨t.hd,t.len,fun y y0 y1=>⟨(t.row y y0 y1).len,fun _=>t.row y y0 y1⟩⟩
section
variable{α:Type}[Inhabited α]{le:α->α->Prop}
def par(k:Int):Int:=(k-1) / 2
theorem CL{k r:Int}(h:par k=r)(k0:0<k):k=2*r+1\/k=2*r+2:=by unfold par at h;omega
theorem zu{k:Int}(k0:0<k):0<=par k/\par k<k:=by unfold par;omega
def m8(le:α->α->Prop)(L:List α)(f lo hi:Int):Prop:=∀k:Int,0<k->k<hi->lo<=par k->le (gt L (f+k)) (gt L (f+par k))
structure o7(le:α->α->Prop)(L:List α)(f lo hi r:Int):Prop where
 rest:∀k:Int,0<k->k<hi->lo<=par k->par k≠r->le (gt L (f+k)) (gt L (f+par k))
 over:∀k:Int,0<k->k<hi->par k=r->0<r->lo<=par r->le (gt L (f+k)) (gt L (f+par r))
theorem o7.start{L:List α}{f lo hi:Int}(l0:0<=lo)(h:m8 le L f (lo+1) hi):o7 le L f lo hi lo:=
 ⟨fun k k0 k1 k2 k3=>h k k0 k1 om,fun k k0 k1 k2 r0 k3=>by have:=zu r0;omega⟩
theorem o7.leaf{L:List α}{f lo hi r:Int}(h:o7 le L f lo hi r)(hc:hi<=2*r+1):m8 le L f lo hi:=fun k k0 k1 k2=>by
 by_cases e:par k=r
 ·have:=CL e k0;omega
 ·exact h.rest k k0 k1 k2 e
theorem o7.stop(hp:KR le){L:List α}{f lo hi r c:Int}(h:o7 le L f lo hi r)(hc:∀k:Int,0<k->k<hi->par k=r->le (gt L (f+k)) (gt L (f+c)))(w:le (gt L (f+c)) (gt L (f+r))):m8 le L f lo hi:=fun k k0 k1 k2=>by
 by_cases e:par k=r
 ·rw[e];exact hp.trans _ _ _ (hc k k0 k1 e) w
 ·exact h.rest k k0 k1 k2 e
theorem o7.step(hp:KR le){L:List α}{f lo hi r c:Int}(f0:0<=f)(l0:0<=lo)(hl:f+hi<=L.length)(r0:lo<=r)(cr:c=2*r+1\/c=2*r+2)(c1:c<hi)(h:o7 le L f lo hi r)(hc:∀k:Int,0<k->k<hi->par k=r->le (gt L (f+k)) (gt L (f+c)))(w:le (gt L (f+r)) (gt L (f+c))) :
  o7 le (dG L (f+r) (f+c)) f lo hi c:=by
 have cp:par c=r:=by unfold par;omega
 have g:∀k:Int,0<=k->gt (dG L (f+r) (f+c)) (f+k)=if k=c then gt L (f+r)else if k=r then gt L (f+c)else gt L (f+k):=fun k k0=>by
  rw[jG L om om om om om];by_cases e1:k=c
  ·rw[if_pos om,if_pos e1]
  ·rw[if_neg om,if_neg e1]
   by_cases e2:k=r
   ·rw[if_pos om,if_pos e2]
   ·rw[if_neg om,if_neg e2]
 refine⟨fun k k0 k1 k2 k3=>?_,fun k k0 k1 k2 c0 k3=>?_⟩
 ·have pk:=zu k0
  rw[g k om,g (par k) om,if_neg k3];by_cases e:par k=r
  ·rw[if_pos e]
   by_cases e2:k=c
   ·rw[if_pos e2];exact w
   ·rw[if_neg e2,if_neg om]
    exact hc k k0 k1 e
  ·rw[if_neg e,if_neg (fun q=>e (by rw[q];exact cp))]
   by_cases e2:k=r
   ·subst e2
    rw[if_pos rfl];exact h.over c om c1 cp k0 k2
   ·rw[if_neg e2]
    exact h.rest k k0 k1 k2 e
 ·rw[g k om,g (par c) (by rw[cp];omega),cp]
  have:=zu k0;rw[if_neg om,if_neg om,if_neg om,if_pos rfl];have:=h.rest k k0 k1 om om;rw[k2]at this;exact this
theorem m8.top(hp:KR le){L:List α}{f hi:Int}(h:m8 le L f 0 hi):∀(n:Nat) (k:Int),k.toNat<=n->0<=k->k<hi->le (gt L (f+k)) (gt L (f+0)):=by
 intro n
 induction n with
 |zero=>intro k hk k0 k1;rw[show k=0 by omega];exact hp.refl _
 |succ n ih=>
  intro k hk k0 k1;by_cases e:k=0
  ·rw[e];exact hp.refl _
  ·have pk:=zu (k:=k) om
   exact hp.trans _ _ _ (h k om k1 pk.1) (ih (par k) om pk.1 om)
structure N6(le:α->α->Prop)(L:List α)(f i b:Int):Prop where
 heap:m8 le L f 0 (i-f)
 up:aI le L i b
 Bn:∀p q:Int,f<=p->p<i->i<=q->q<b->le (gt L p) (gt L q)
theorem N6.swap(hp:KR le){L:List α}{f i b:Int}(f0:0<=f)(hl:b<=L.length)(h:N6 le L f (i+1) b)(i0:f<=i)(i1:i<b) :
  o7 le (dG L f i) f 0 (i-f) 0/\aI le (dG L f i) i b/\∀p q:Int,f<=p->p<i->i<=q->q<b->le (gt (dG L f i) p) (gt (dG L f i) q):=by
 have g:∀k:Int,0<=k->gt (dG L f i) k=if k=i then gt L f else if k=f then gt L i else gt L k:=fun k k0=>jG L om om om om k0
 have top:∀p:Int,f<=p->p<i+1->le (gt L p) (gt L f):=fun p p0 p1=>by
  have:=h.heap.top hp (p-f).toNat (p-f) om om om;rw[show f+(p-f)=p by omega,Int.add_zero]at this;exact this
 refine⟨⟨fun k k0 k1 k2 k3=>?_,fun k k0 k1 k2 r0=>om⟩,fun p q p0 pq q1=>?_,fun p q p0 p1 q0 q1=>?_⟩
 ·have pk:=zu k0
  rw[g _ om,g _ om,if_neg om,if_neg om,if_neg om,if_neg om];exact h.heap k k0 om k2
 ·rw[g p om,g q om,if_neg (show ¬q=i by omega),if_neg (show ¬q=f by omega)]
  by_cases e:p=i
  ·rw[if_pos e];exact h.Bn f q om om om q1
  ·rw[if_neg e,if_neg om]
   exact h.up p q om pq q1
 ·rw[g p om,g q om,if_neg (show ¬p=i by omega)]
  have YM:∀x,(∃k:Int,f<=k/\k<i+1/\x=gt L k)->le x (if q=i then gt L f else if q=f then gt L i else gt L q):=by
   rintro x ⟨k,k0,k1,rfl⟩;by_cases e:q=i
   ·rw[if_pos e];exact top k k0 k1
   ·rw[if_neg e,if_neg om]
    exact h.Bn k q k0 k1 om q1
  by_cases e:p=f
  ·rw[if_pos e];exact YM _ ⟨i,i0,om,rfl⟩
  ·rw[if_neg e];exact YM _ ⟨p,p0,om,rfl⟩
theorem aK.dL{L M:List α}{f i b:Int}(f0:0<=f)(h:aK f i L M)(fi:f<=i)(up:aI le L i b)(Bn:∀p q:Int,f<=p->p<i->i<=q->q<b->le (gt L p) (gt L q)) :
  aI le M i b/\∀p q:Int,f<=p->p<i->i<=q->q<b->le (gt M p) (gt M q):=by
 constructor
 ·intro p q p0 pq q1
  rw[h.out p om om,h.out q om om];exact up p q p0 pq q1
 ·intro p q p0 p1 q0 q1
  rw[h.out q om om];exact h.all (fun x=>le x (gt L q)) (fun k k0 k1=>Bn k q k0 k1 q0 q1) p p0 p1
theorem aI.join{L:List α}{a m b:Int}(h1:aI le L a m)(h2:aI le L m b)(Bn:∀p q:Int,a<=p->p<m->m<=q->q<b->le (gt L p) (gt L q)):aI le L a b:=by
 intro p q p0 pq q1;by_cases c1:q<m
 ·exact h1 p q p0 pq c1
 ·by_cases c2:p<m
  ·exact Bn p q p0 c2 om q1
  ·exact h2 p q om pq q1
theorem aI.one{L:List α}{a b:Int}(h:b<=a+1):aI le L a b:=fun p q p0 pq q1=>om
end
section
variable{α:Type}[Inhabited α]{le:α->α->Prop}
structure Part(le:α->α->Prop)(L:List α)(a b i j:Int):Prop where
 i0:a<i
 j1:j<b
 ij:i<=j+1
 low:∀p:Int,a<p->p<i->le (gt L p) (gt L a)
 high:∀p:Int,j<p->p<b->le (gt L a) (gt L p)
theorem Part.start(L:List α){a b:Int}(h:a<b):Part le L a b (a+1) (b-1):=⟨om,om,om,fun p p0 p1=>om,fun p p0 p1=>om⟩
theorem Part.left{L:List α}{a b i j:Int}(h:Part le L a b i j)(c:i<=j)(w:le (gt L i) (gt L a)):Part le L a b (i+1) j:=
 ⟨by have:=h.i0;omega,h.j1,om,fun p p0 p1=>by
  by_cases e:p=i
  ·rw[e];exact w
  ·exact h.low p p0 om,h.high⟩
theorem Part.right{L:List α}{a b i j:Int}(h:Part le L a b i j)(c:i<=j)(w:le (gt L a) (gt L j)):Part le L a b i (j-1):=
 ⟨h.i0,by have:=h.j1;omega,om,h.low,fun p p0 p1=>by
  by_cases e:p=j
  ·rw[e];exact w
  ·exact h.high p om p1⟩
theorem Part.swap{L:List α}{a b i j:Int}(a0:0<=a)(hb:b<=L.length)(h:Part le L a b i j)(c:i<j)(w1:le (gt L a) (gt L i))(w2:le (gt L j) (gt L a)):Part le (dG L i j) a b (i+1) (j-1):=by
 have hi:=h.i0;have hj:=h.j1;have g:∀k:Int,0<=k->gt (dG L i j) k=if k=j then gt L i else if k=i then gt L j else gt L k:=fun k k0=>jG L om om om om k0
 refine⟨om,om,om,fun p p0 p1=>?_,fun p p0 p1=>?_⟩
 ·rw[g p om,g a a0,if_neg (show ¬p=j by omega),if_neg (show ¬a=j by omega),if_neg (show ¬a=i by omega)]
  by_cases e:p=i
  ·rw[if_pos e];exact w2
  ·rw[if_neg e];exact h.low p p0 om
 ·rw[g p om,g a a0,if_neg (show ¬a=j by omega),if_neg (show ¬a=i by omega)]
  by_cases e:p=j
  ·rw[if_pos e];exact w1
  ·rw[if_neg e,if_neg om];exact h.high p om p1
theorem Part.done{L:List α}{a b i j:Int}(a0:0<=a)(hb:b<=L.length)(h:Part le L a b i j)(c:j<i) :
  (∀p:Int,a<=p->p<j->le (gt (dG L j a) p) (gt (dG L j a) j))/\(∀p:Int,j<p->p<b->le (gt (dG L j a) j) (gt (dG L j a) p)):=by
 have hi:=h.i0;have hj:=h.j1;have ij:=h.ij;have g:∀k:Int,0<=k->gt (dG L j a) k=if k=a then gt L j else if k=j then gt L a else gt L k:=fun k k0=>jG L om om om om k0
 have gj:gt (dG L j a) j=gt L a:=by
  rw[g j om];by_cases e:j=a
  ·rw[if_pos e,e]
  ·rw[if_neg e,if_pos rfl]
 rw[gj];refine⟨fun p p0 p1=>?_,fun p p0 p1=>?_⟩
 ·rw[g p om]
  by_cases e:p=a
  ·rw[if_pos e];exact h.low j om om
  ·rw[if_neg e,if_neg om];exact h.low p om om
 ·rw[g p om,if_neg om,if_neg om]
  exact h.high p p0 p1
structure zv(le:α->α->Prop)(L:List α)(A B a b:Int):Prop where
 s1:aI le L A a
 s2:aI le L b B
 c1:∀p q:Int,A<=p->p<a->a<=q->q<B->le (gt L p) (gt L q)
 c2:∀p q:Int,A<=p->p<b->b<=q->q<B->le (gt L p) (gt L q)
 r0:A<=a
 r1:a<=b
 r2:b<=B
theorem zv.start(L:List α){A B:Int}(h:A<=B):zv le L A B A B:=⟨fun p q p0 pq q1=>om,fun p q p0 pq q1=>om,fun p q p0 p1 q0 q1=>om,fun p q p0 p1 q0 q1=>om,Int.le_refl _,h,Int.le_refl _⟩
theorem zv.perm{L M:List α}{A B a b:Int}(A0:0<=A)(h:zv le L A B a b)(k:aK a b L M):zv le M A B a b:=by
 have r0:=h.r0;have r1:=h.r1;refine⟨fun p q p0 pq q1=>?_,fun p q p0 pq q1=>?_,fun p q p0 p1 q0 q1=>?_,fun p q p0 p1 q0 q1=>?_,h.r0,h.r1,h.r2⟩
 ·rw[k.out p om om,k.out q om om]
  exact h.s1 p q p0 pq q1
 ·rw[k.out p om om,k.out q om om]
  exact h.s2 p q p0 pq q1
 ·rw[k.out p om om]
  by_cases c:q<b
  ·exact k.all (fun x=>le (gt L p) x) (fun j j0 j1=>h.c1 p j p0 p1 j0 (by have:=h.r2;omega)) q q0 c
  ·rw[k.out q om om]
   exact h.c1 p q p0 p1 q0 q1
 ·rw[k.out q om om]
  by_cases c:a<=p
  ·exact k.all (fun x=>le x (gt L q)) (fun j j0 j1=>h.c2 j q om j1 q0 q1) p c p1
  ·rw[k.out p om om]
   exact h.c2 p q p0 p1 q0 q1
theorem zv.done{L:List α}{A B a b:Int}(h:zv le L A B a b)(s:aI le L a b):aI le L A B:=by
 have r2:=h.r2;refine aI.join (aI.join h.s1 s (fun p q p0 p1 q0 q1=>h.c1 p q p0 p1 q0 om)) h.s2 (fun p q p0 p1 q0 q1=>h.c2 p q p0 p1 q0 q1)
theorem zv.left(hp:KR le){L M:List α}{A B a b m:Int}(A0:0<=A)(h:zv le L A B a b)(am:a<=m)(mb:m<b)(h1:∀p:Int,a<=p->p<m->le (gt L p) (gt L m))(h2:∀p:Int,m<p->p<b->le (gt L m) (gt L p))(k:aK a m L M)(s:aI le M a m):zv le M A B (m+1) b:=by
 have r0:=h.r0;have r2:=h.r2;have kw:=k.wide (a:=a) (b:=b) om om om;have hM:=h.perm A0 kw;have m1:∀p:Int,a<=p->p<m->le (gt M p) (gt M m):=fun p p0 p1=>by
  rw[k.out m om om];exact k.all (fun x=>le x (gt L m)) (fun j j0 j1=>h1 j j0 j1) p p0 p1
 have m2:∀q:Int,m<q->q<B->le (gt M m) (gt M q):=fun q q0 q1=>by
  by_cases c:q<b
  ·rw[k.out m om om,k.out q om om]
   exact h2 q q0 c
  ·exact hM.c2 m q om mb om q1
 refine⟨?_,hM.s2,fun p q p0 p1 q0 q1=>?_,hM.c2,om,om,h.r2⟩
 ·refine aI.join (m:=a) hM.s1 (aI.join (m:=m) s (aI.one om) (fun p q p0 p1 q0 q1=>?_)) (fun p q p0 p1 q0 q1=>hM.c1 p q p0 p1 q0 om)
  rw[show q=m by omega];exact m1 p p0 p1
 ·by_cases c:p<a
  ·exact hM.c1 p q p0 c om q1
  ·by_cases e:p=m
   ·rw[e];exact m2 q om q1
   ·exact hp.trans _ _ _ (m1 p om om) (m2 q om q1)
theorem zv.right(hp:KR le){L M:List α}{A B a b m:Int}(A0:0<=A)(h:zv le L A B a b)(am:a<=m)(mb:m<b)(h1:∀p:Int,a<=p->p<m->le (gt L p) (gt L m))(h2:∀p:Int,m<p->p<b->le (gt L m) (gt L p))(k:aK (m+1) b L M)(s:aI le M (m+1) b):zv le M A B a m:=by
 have r0:=h.r0;have r2:=h.r2;have kw:=k.wide (a:=a) (b:=b) om om om;have hM:=h.perm A0 kw;have m2:∀q:Int,m<q->q<b->le (gt M m) (gt M q):=fun q q0 q1=>by
  rw[k.out m om om];exact k.all (fun x=>le (gt L m) x) (fun j j0 j1=>h2 j om j1) q om q1
 have m1:∀p:Int,A<=p->p<m->le (gt M p) (gt M m):=fun p p0 p1=>by
  by_cases c:a<=p
  ·rw[k.out m om om,k.out p om om]
   exact h1 p c p1
  ·exact hM.c1 p m p0 om am om
 have c3:∀p q:Int,A<=p->p<=m->m<q->q<B->le (gt M p) (gt M q):=fun p q p0 p1 q0 q1=>by
  by_cases c:q<b
  ·by_cases e:p=m
   ·rw[e];exact m2 q q0 c
   ·exact hp.trans _ _ _ (m1 p p0 om) (m2 q q0 c)
  ·exact hM.c2 p q p0 om om q1
 refine⟨hM.s1,?_,hM.c1,fun p q p0 p1 q0 q1=>?_,om,om,om⟩
 ·refine aI.join (m:=m+1) (aI.one om) (aI.join (m:=b) s hM.s2 (fun p q p0 p1 q0 q1=>hM.c2 p q om p1 q0 q1)) (fun p q p0 p1 q0 q1=>?_)
  exact c3 p q om om om q1
 ·by_cases e:q=m
  ·rw[e];exact m1 p p0 p1
  ·exact c3 p q p0 om om q1
theorem zv.equal{L:List α}{A B a b m:Int}(h:zv le L A B a b)(am:a<=m)(mb:m<=b)(e:∀p q:Int,a<=p->p<m->a<=q->q<b->le (gt L p) (gt L q)):zv le L A B m b:=by
 have r0:=h.r0;have r2:=h.r2;refine⟨aI.join (m:=a) h.s1 (fun p q p0 pq q1=>e p q p0 om om om) (fun p q p0 p1 q0 q1=>h.c1 p q p0 p1 q0 om),h.s2,fun p q p0 p1 q0 q1=>?_,h.c2,om,om,h.r2⟩;by_cases c:p<a
 ·exact h.c1 p q p0 c om q1
 ·by_cases d:q<b
  ·exact e p q om p1 om d
  ·exact h.c2 p q p0 om om q1
end
def fX:List Int->List Int->Int
 | [],[]=>0
 | [],_ :: _=>-1
 |_ :: _,[]=>1
 |a :: x,b :: y=>if a<b then -1 else if b<a then 1 else fX x y
theorem qJ:∀x y:List Int,fX y x=-fX x y
 | [],[]=>rfl
 | [],_ :: _=>rfl
 |_ :: _,[]=>rfl
 |a :: x,b :: y=>by
  have:=qJ x y;unfold fX;by_cases c:a<b
  ·rw[if_neg om,if_pos c,if_pos c];rfl
  ·by_cases d:b<a
   ·rw[if_pos d,if_neg c,if_pos d]
   ·rw[if_neg d,if_neg c,if_neg c,if_neg d];exact this
theorem Ks(x:List Int):fX x x=0:=by have:=qJ x x;omega
theorem IL:∀{x y:List Int},fX x y=0->x=y
 | [],[],_=>rfl
 | [],_ :: _,h=>by simp[fX]at h
 |_ :: _,[],h=>by simp[fX]at h
 |a :: x,b :: y,h=>by
  unfold fX at h;by_cases c:a<b
  ·rw[if_pos c]at h;omega
  ·by_cases d:b<a
   ·rw[if_neg c,if_pos d]at h;omega
   ·rw[if_neg c,if_neg d]at h
    rw[show a=b by omega,IL h]
theorem zw:∀{x y z:List Int},fX x y<=0->fX y z<=0->fX x z<=0
 | [],[],[],_,_=>by simp[fX]
 | [],[],_ :: _,_,_=>by simp[fX]
 | [],_ :: _,[],_,_=>by simp[fX]
 | [],_ :: _,_ :: _,_,_=>by simp[fX]
 |_ :: _,[],_,h,_=>by simp[fX]at h
 |_ :: _,_ :: _,[],_,h=>by simp[fX]at h
 |a :: x,b :: y,c :: z,h,k=>by
  unfold fX at h k ⊢;by_cases c1:a<b
  ·by_cases c2:b<c
   ·rw[if_pos (show a<c by omega)];omega
   ·by_cases c3:c<b
    ·rw[if_neg c2,if_pos c3]at k;omega
    ·rw[if_pos (show a<c by omega)];omega
  ·by_cases c4:b<a
   ·rw[if_neg c1,if_pos c4]at h;omega
   ·rw[if_neg c1,if_neg c4]at h
    by_cases c2:b<c
    ·rw[if_pos (show a<c by omega)];omega
    ·by_cases c3:c<b
     ·rw[if_neg c2,if_pos c3]at k;omega
     ·rw[if_neg c2,if_neg c3]at k
      rw[if_neg om,if_neg om];exact zw h k
namespace LL
def lt(x y:List Int):Prop:=fX x y<0
def le(x y:List Int):Prop:=¬lt y x
theorem not_lt{x y:List Int}:¬lt x y↔le y x:=Iff.rfl
theorem not_le{x y:List Int}:¬le x y↔lt y x:=by unfold le;exact Classical.not_not
theorem le_iff{x y:List Int}:le x y↔fX x y<=0:=by unfold le lt;rw[qJ];omega
theorem le_refl{x:List Int}:le x x:=by rw[le_iff,Ks];omega
theorem le_trans{x y z:List Int}(h:le x y)(k:le y z):le x z:=le_iff.2 (zw (le_iff.1 h) (le_iff.1 k))
theorem le_total{x y:List Int}:le x y\/le y x:=by rw[le_iff,le_iff,qJ x y];omega
theorem le_of_lt{x y:List Int}(h:lt x y):le x y:=by rw[le_iff];unfold lt at h;omega
theorem le_antisymm{x y:List Int}(h:le x y)(k:le y x):x=y:=by
 rw[le_iff]at h k;rw[qJ]at k;exact IL om
end LL
theorem cT{x y:List Int}:fX x y<0↔LL.lt x y:=Iff.rfl
structure LE where
 hd:Hd
 row:List Int
instance:Inhabited LE:=⟨⟨⟨none,0,0⟩,[]⟩⟩
def LE.cells(x:LE):List Value:=[.slice x.hd.a x.hd.n x.hd.c]
theorem Hc(x:LE):x.cells.length=1:=rfl
def LE.q(x:LE):List Int:=x.row
def gM(x y:LE):Prop:=LL.le x.q y.q
theorem dR:KR gM:=⟨fun x=>LL.le_refl,fun x y z=>LL.le_trans,fun x y=>by unfold gM;exact LL.le_total⟩
def lC(x:Int):List Value:=[.int .i64 x]
def LR(h:af)(a:Option Addr)(n:Nat)(q:List Int):Prop:=Rows lC 1 h a n q/\n<=100000
theorem LR.ext{h h':af}{a:Option Addr}{n:Nat}{q:List Int}(t:LR h a n q)(e:Ext h h'):LR h' a n q:=⟨t.1.ext e,t.2⟩
def LE.OK(h:af)(x:LE):Prop:=LR h x.hd.a x.hd.n x.row
structure bA(h0 h:af)(b n:Nat)(L:List LE):Prop where
 ext:Ext h0 h
 own:ct h b 1 (L.flatMap LE.cells)
 cI:h0.next<=b
 lt:b<h.next
 len:L.length=n
 base:h0.low<=h0.next
 ok:∀i:Int,0<=i->i<n->(gt L i).OK h0
 gF:n<=100000
theorem bA.more{h0 h h':af}{b n:Nat}{L:List LE}(t:bA h0 h b n L)(e:Ext h h'):bA h0 h' b n L:=
 ⟨t.ext.trans e,t.own.ext e t.lt,t.cI,Nat.lt_of_lt_of_le t.lt e.next,t.len,t.base,t.ok,t.gF⟩
theorem bA.read{h0 h:af}{b n:Nat}{L:List LE}(t:bA h0 h b n L){i:Int}(i0:0<=i)(i1:i<n):∃a m c y,gt L i=⟨⟨a,m,c⟩,y⟩/\LR h a m (gt L i).q/\h.aN ⟨b,0+i.toNat*1,none⟩ 1=some [.slice a m c]:=by
 have r:Rows LE.cells 1 h (some ⟨b,0,none⟩) L.length L:=ct.rows t.own Hc om t.lt;obtain⟨b',o',e,_,h3⟩:=r.at i0 (by rw[t.len];exact i1);cases e;exact⟨(gt L i).hd.a,(gt L i).hd.n,(gt L i).hd.c,(gt L i).row,rfl,(t.ok i i0 i1).ext t.ext,h3 0 1 om om⟩
theorem bA.put{h0 h:af}{b n:Nat}{L:List LE}(t:bA h0 h b n L){i:Int}(i0:0<=i)(i1:i<n){x:LE}(hx:x.OK h0):∃h',h.write b (i.toNat*1) x.cells=some h'/\bA h0 h' b n (L.set i.toNat x)/\ku h h' b:=by
 obtain⟨h',w1,w2,w3⟩:=ct.setRow t.own Hc (i:=i.toNat) (by have:=t.len;omega) x;refine⟨h',w1,⟨w3.ext t.ext t.cI,w2,t.cI,by rw[w3.next];exact t.lt,by rw[List.length_set];exact t.len,t.base,fun j j0 j1=>?_,t.gF⟩,w3⟩;rw[CG L i0 j0 (by have:=t.len;omega)];split
 ·exact hx
 ·exact t.ok j j0 j1
theorem wS:∀(x y:List Int) (k:Nat),(∀j:Int,0<=j->j<k->gt x j=gt y j)->k<=x.length->k<=y.length->fX x y=fX (x.drop k) (y.drop k)
 |_,_,0,_,_,_=>rfl
 | [],_,k+1,_,h,_=>by simp at h
 |_ :: _,[],k+1,_,_,h=>by simp at h
 |a :: x,b :: y,k+1,e,h1,h2=>by
  have e0:a=b:=e 0 om om;have ih:=wS x y k (fun j j0 j1=>by
   have:=e (j+1) om om;unfold gt at this ⊢;rw[show(j+1).toNat=j.toNat+1 by omega]at this;exact this) (by simpa using h1) (by simpa using h2)
  subst e0;show(if a<a then -1 else if a<a then 1 else fX x y)=_;rw[if_neg om,if_neg om,ih];rfl
theorem wT{x:List Int}{k:Int}(k0:0<=k)(h:k<x.length):∃r,x.drop k.toNat=gt x k :: r:=by
 refine⟨x.drop (k.toNat+1),?_⟩;rw[List.drop_eq_getElem_cons om];unfold gt;rw[List.getD_eq_getElem?_getD,List.getElem?_eq_getElem om];rfl
variable{F:bg}{call head arith cmp yj fD iw conv neg imax uM ofNat Gi place HP nz LW rd wr push next v9 nat iW Jw rS cut BS Jx nB part app Pw putAt fresh aB aH wrote bZ lt ne kp yk sj yn uO Jy Gj Jz bytes Uw:_}(hA:AP F ⟨call,head,arith,cmp,yj,fD,iw,conv,neg,imax,uM,ofNat,Gi,place,HP,nz,LW,rd,wr,push,next,v9,nat,iW,Jw,rS,cut,BS,Jx,nB,part,app,Pw,putAt,fresh,aB,aH,wrote,bZ,lt,ne,kp,yk,sj,yn,uO,Jy,Gj,Jz,bytes,Uw⟩)
include hA
theorem wU{t e es:Nat}(hT:gA Tryz.prog t e es){α:Type}{enc:α->List Value}(he:∀x,(enc x).length=es)(LJ:0<es)(fF:∀x,(enc x).all aF=true){h:af}{a:Option Addr}{n c:Nat}{l:List α}{v:α}(hp:mT h es a n c (l.flatMap enc))(hn:n<=100000){C:Option Addr->Nat->Nat->af->Prop}
  (hC:∀b' h',mT h' es (some ⟨b',0,none⟩) (n+1) (az es (n+1)) ((l++[v]).flatMap enc)->(∀h0,Ext h0 h->jm h0.next a->Ext h0 h')->h.next<h'.next->h.next<b'->(∀i,i<h.next->(∀ad,a=some ad->ad.block≠i)->h'.m.get i=h.m.get i)->C (some ⟨b',0,none⟩) (n+1) (az es (n+1)) h') :
  app [t,t] [.slice a n c,.slice (some ⟨next h,0,none⟩) 1 1] (push h es (enc v)) C:=by
 rw[vF hA,dy hA,cX hA];have hs:Cells (h.push es (enc v)) (some ⟨h.next,0,none⟩) 1 es (enc v):=⟨rfl,by simp[af.push],by rw[(ct.push h es _).aN (by rw[he];omega),List.drop_zero,List.take_of_length_le (by rw[he];omega)]⟩;obtain⟨a',c',h',h1,h2,h3,h4,h5,h6⟩:=vC hT hT.yE (c2:=1) (hp.ext (.push h es (enc v))) hs (qH fF l) (fF v) om om;rcases h2 with ⟨_,w,_⟩|⟨b',rfl,rfl,w1,w2,w3⟩
 ·omega
 have nx:(h.push es (enc v)).next=h.next+1:=rfl;refine⟨_,n+1,_,h',h1,hC b' h' (.inr ⟨b',rfl,rfl,w1,by rw[gD he];simp only[List.length_append,List.length_cons,List.length_nil];have:=hp.cells.length;rw[gD he]at this;rw[Nat.eq_of_mul_eq_mul_right LJ this],?_⟩) (fun h0 e0 f0=>(h3 h0 (e0.trans (.push _ _ _)) f0).1) om (by have:=h5 _ rfl;simp only at this;omega) (fun i hi ha=>?_)⟩
 ·simpa using w3
 ·rw[h6 i om ha]
  exact(Ext.push h es (enc v)).get i hi
theorem TL{h h':af}{b dD:Nat}(hw:wrote h h'=false)(hb:b<dD):kp false (wrote h h') false b dD:=by
 rw[Cg hA];exact⟨rfl,hw,.inr hb⟩
theorem IC{h:af}(ar:h.low<=h.next){x:Fc}(hn:i64 x.n)(hd:i64 x.d){Q:Value->af->Prop}(hQ:∀b h',(b=true↔cH x)->Ext h h'->Q (.bool b) h'):call 38 [.agg #[.int .i64 x.n,.int .i64 x.d]] h Q:=by
 obtain⟨n,d⟩:=x;simp only at hn hd;refine hA.aO Tryz.func38 x38.2 (hA.alike _ _ _ rfl) ar (zc ?_);refine qw hA ar hn hd (fun e h' k x1=>?_);refine⟨e,rfl,?_⟩;refine zq ?_;refine br (e=0) (by rw[cY hA]) (fun c=>?_) (fun c=>?_)<;>refine zc ?_
 rotate_left
 ·refine zq ?_
  refine hQ false h' ⟨(fun q=>by cases q),fun q=>?_⟩ x1;rcases k with ⟨k,_⟩|⟨_,k⟩
  ·exact absurd k c
  ·exact absurd q.1 k
 have ok:okF n d:=by rcases k with ⟨_,k⟩|⟨k,_⟩;exact k;omega
 refine zq ?_;refine br (0<=n) (by rw[bX hA]) (fun c2=>?_) (fun c2=>?_)<;>refine zc ?_
 rotate_left
 ·refine zq ?_
  exact hQ false h' ⟨(fun q=>by cases q),fun q=>absurd q.2.1 c2⟩ x1
 refine zq ?_;rw[aA hA];exact hQ _ h' ⟨fun q=>⟨ok,c2,of_decide_eq_true q⟩,fun q=>decide_eq_true q.2.2⟩ x1
theorem dH{h:af}{a:Option Addr}{n:Nat}{q:List Int}(t:LR h a n q):LR (fresh h) a n q:=t.ext (fL hA h)
theorem de{h0 h:af}{b n:Nat}{L:List LE}(t:bA h0 h b n L){i j:Int}(i0:0<=i)(i1:i<n)(j0:0<=j)(j1:j<n){ax ay:Option Addr}{nx cx ny cy:Nat}{x2 y2:List Int}(g1:gt L i=⟨⟨ax,nx,cx⟩,x2⟩)(g2:gt L j=⟨⟨ay,ny,cy⟩,y2⟩) :
  ∃h1 h2,wr h b (place 0 i 1) [.slice ay ny cy] h1/\wr h1 b (place 0 j 1) [.slice ax nx cx] h2/\bA h0 h2 b n (dG L i j):=by
 have o1:=t.ok i i0 i1;have o2:=t.ok j j0 j1;rw[g1]at o1;rw[g2]at o2;obtain⟨h1,w1,t1,_⟩:=t.put i0 i1 (x:=⟨⟨ay,ny,cy⟩,y2⟩) o2;obtain⟨h2,w2,t2,_⟩:=t1.put j0 j1 (x:=⟨⟨ax,nx,cx⟩,x2⟩) o1;refine⟨h1,h2,yL hA (by rw[Nat.zero_add];exact w1),yL hA (by rw[Nat.zero_add];exact w2),?_⟩;unfold dG;rw[g1,g2];exact t2
theorem dK{h0 h h':af}(ar:h0.low<=h0.next){b n:Nat}{L:List LE}(t:bA h0 h b n L)(x:Ext (fresh h) h'):bA h0 (aB h h') b n L:=
 t.more (bW hA (t.ext.aD ar) (.refl h) x)
theorem Qv{h:af}(ar:h.low<=h.next){x y:Int}{Q:Value->af->Prop}(hQ:∀c:Int,c=(if x<y then -1 else if y<x then 1 else 0)->Q (.int .i64 c) h):call 76 [.int .i64 x,.int .i64 y] h Q:=by
 have nan:∀{z:Int} {R:Value->af->Prop},R (.bool false) h->call 101 [.int .i64 z] h R:=fun {z R} hR=>by
  refine hA.aO Tryz.func101 x101.2 (hA.alike _ _ _ rfl) ar (zc ?_);rw[show cmp .neq z z=false by rw[bR hA];simp];exact hR
 refine hA.aO Tryz.func76 x76.2 (hA.alike _ _ _ rfl) ar (zc ?_);refine nan ⟨_,rfl,?_⟩;refine zq ?_;refine nan ⟨_,rfl,?_⟩;refine zq ?_;refine br (x<y) (by rw[aA hA]) (fun c=>?_) (fun c=>?_)<;>refine zc ?_
 ·refine zq ?_
  exact hQ _ (by rw[if_pos c])
 refine zq ?_;refine br (y<x) (by rw[cS hA]) (fun d=>?_) (fun d=>?_)<;>refine zc ?_
 ·refine zq ?_
  exact hQ _ (by rw[if_neg c,if_pos d])
 refine zq ?_;exact hQ _ (by rw[if_neg c,if_neg d])
theorem TX{h:af}(ar:h.low<=h.next){a a':Option Addr}{n n' c c':Nat}{p q:List Int}(hp:LR h a n p)(hq:LR h a' n' q){N Z:Int}(eN:N=n)(eZ:Z=fX p q){Q:Exit->SS->Prop}
  (iu:∀env,Q .ret ⟨(4,.int .i64 Z) :: env,0,[],h⟩)
  (dr:fX p q=(if n<n' then -1 else 0)->Q (.exit 0) ⟨[(0,.slice a n c),(1,.slice a' n' c')],0,[],h⟩) :
  ∀(d k:Nat) (I:Int),n-k<=d->k<=n->k<=n'->I=k->(∀j:Int,0<=j->j<k->gt p j=gt q j)->
   head 51 2 0 ⟨[(0,.slice a n c),(1,.slice a' n' c'),(9,.slice a n c),(10,.int .i64 N),(11,.int .i64 I)],0,[],h⟩ Q:=by
 have lp:p.length=n:=hp.1.len;have lq:q.length=n':=hq.1.len;have np:=hp.2;have nq:=hq.2;have fin:∀k:Nat,n=k->k<=n'->(∀j:Int,0<=j->j<k->gt p j=gt q j)->fX p q=(if n<n' then -1 else 0):=fun k e hk hs=>by
  rw[wS p q k hs om om,List.drop_eq_nil_of_le om];by_cases w:n<n'
  ·obtain⟨r,e⟩:=wT (x:=q) (k:=k) om om
   rw[Int.toNat_natCast]at e;rw[e,if_pos w];rfl
  ·rw[List.drop_eq_nil_of_le om,if_neg w];rfl
 refine o8 (fun d ih=>?_);intro k I hd hk Am eI hs;by_cases ci:k<n
 rotate_left
 ·refine hA.au Tryz.func51 x51.2 (zc ?_)
  refine br (I<N) (by rw[aA hA]) (fun q=>om) (fun _=>?_)<;>refine zc ?_;exact dr (fin k om Am hs)
 obtain⟨d,rfl⟩:∃k,d=k+1:=⟨d-1,om⟩
 replace ih:=ih d rfl
 obtain⟨b,o,rfl,_,q1⟩:=hp.1.at (i:=I) om om;have q2:=q1 0 1 om om;obtain⟨x,ex⟩:∃z,z=gt p I:=⟨_,rfl⟩;rw[<-ex]at q2;have r1:rd h b (place o I 1) 1 [.int .i64 x]:=aE hA q2;obtain⟨M,eM⟩:∃z:Int,z=n':=⟨_,rfl⟩;have e1:ofNat n'=M:=by rw[eM];exact aJ hA n'
 refine hA.au Tryz.func51 x51.2 (zc ?_);refine br (I<N) (by rw[aA hA]) (fun _=>?_) (fun q=>om)<;>refine zc ?_
 (refine zq ?_;repeat ((first|rw[e1]);refine zq ?_))
 refine br (M<=I) (by rw[bX hA]) (fun c4=>?_) (fun c4=>?_)<;>refine zc ?_
 ·refine zq ?_
  have e:fX p q=1:=by
   rw[wS p q k hs om om,show q.drop k=[]from List.drop_eq_nil_of_le om];obtain⟨r,e⟩:=wT (x:=p) (k:=k) om om;rw[Int.toNat_natCast]at e;rw[e];rfl
  have:=iu [];rw[eZ,e]at this;exact this
 obtain⟨b',o',rfl,_,q3⟩:=hq.1.at (i:=I) om om;have q4:=q3 0 1 om om;obtain⟨y,ey⟩:∃z,z=gt q I:=⟨_,rfl⟩;rw[<-ey]at q4;have r2:rd h b' (place o' I 1) 1 [.int .i64 y]:=aE hA q4;refine zq ?_;refine Qv hA ar (fun u hu=>⟨_,rfl,?_⟩);refine zq ?_;have e:fX p q=if x<y then -1 else if y<x then 1 else fX (p.drop (k+1)) (q.drop (k+1)):=by
  rw[wS p q k hs om om];obtain⟨r1,e1⟩:=wT (x:=p) (k:=k) om om;obtain⟨r2,e2⟩:=wT (x:=q) (k:=k) om om;rw[Int.toNat_natCast,<-eI,<-ex]at e1;rw[Int.toNat_natCast,<-eI,<-ey]at e2;rw[<-List.drop_drop (l:=p),<-List.drop_drop (l:=q),e1,e2];rfl
 refine br (u≠0) (by rw[bR hA]) (fun c5=>?_) (fun c5=>?_)<;>refine zc ?_
 ·refine zq ?_
  have:=iu [(29,.int .i64 u),(8,.int .i64 u)];rw[eZ,e]at this;rw[hu]at c5 this ⊢;by_cases w:x<y
  ·simp only[if_pos w]at this ⊢;exact this
  ·simp only[if_neg w]at this c5 ⊢
   by_cases w2:y<x
   ·simp only[if_pos w2]at this ⊢;exact this
   ·rw[if_neg w2]at c5;exact absurd rfl c5
 have exy:x=y:=by
  rw[hu]at c5;by_cases w:x<y
  ·rw[if_pos w]at c5;omega
  ·rw[if_neg w]at c5
   by_cases w2:y<x
   ·rw[if_pos w2]at c5;omega
   ·omega
 refine zq ?_;rw[aG hA om om];exact ih (k+1) (I+1) om om om om (fun j j0 j1=>by
  by_cases e:j=I
  ·rw[e,<-ex,<-ey];exact exy
  ·exact hs j j0 om)
theorem fz{h:af}(ar:h.low<=h.next){a a':Option Addr}{n n' c c':Nat}{p q:List Int}(hp:LR h a n p)(hq:LR h a' n' q){Q:Value->af->Prop}
  (hQ:∀(u:Int) h',u=fX p q->Ext h h'->Q (.int .i64 u) h'):call 51 [.slice a n c,.slice a' n' c'] h Q:=by
 have lp:p.length=n:=hp.1.len;have lq:q.length=n':=hq.1.len;have np:=hp.2;have nq:=hq.2;obtain⟨N,eN⟩:∃z:Int,z=n:=⟨_,rfl⟩;have e1:ofNat n=N:=by rw[eN];exact aJ hA n
 obtain⟨M,eM⟩:∃z:Int,z=n':=⟨_,rfl⟩;have e2:ofNat n'=M:=by rw[eM];exact aJ hA n'
 obtain⟨Z,eZ⟩:∃z:Int,z=fX p q:=⟨_,rfl⟩;refine hA.aO Tryz.func51 x51.2 (hA.alike _ _ _ rfl) ar (zc ?_)
 (refine zq ?_;repeat ((first|rw[e1]);refine zq ?_))
 refine TX hA ar hp hq eN eZ (fun env=>?_) (fun e=>?_) n 0 0 om om om rfl (fun j j0 j1=>om)
 ·refine zq ?_
  exact hQ _ _ eZ (.refl h)
 ·(refine zq ?_;repeat ((first|rw[e1]|rw[e2]);refine zq ?_))
  refine br (N<M) (by rw[aA hA]) (fun c=>?_) (fun c=>?_)<;>refine zc ?_
  ·refine zq ?_
   exact hQ _ _ (by rw[e,if_pos om]) (.refl h)
  ·refine zq ?_
   exact hQ _ _ (by rw[e,if_neg om]) (.refl h)
