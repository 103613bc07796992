import Derived.Test.YtdpbiegfljmhmaaGreatSymB
import Derived.Test.YtdpbiegfljmhmaaGreatSimD
import Derived.Lib.Overlaps
set_option linter.unusedSimpArgs false
set_option linter.unusedVariables false
namespace Go.cS
theorem br{c:Bool}{A B:Prop}(p:Prop)[Decidable p](hc:c=decide p)(h1:p->A)(h2:¬p->B):cond c A B:=by
 subst hc;by_cases h:p
 ·simp only[h,decide_true,cond_true];exact h1 h
 ·simp only[h,decide_false,cond_false];exact h2 h
structure Ext(h h':af):Prop where
 next:h.next<=h'.next
 low:h.low<=h.next->h'.low<=h'.next
 vD:Nat.min h.low h.next<=h'.low
 get:∀b,b<h.next->h'.m.get b=h.m.get b
theorem Ext.refl(h:af):Ext h h:=⟨Nat.le_refl _,fun h=>h,Nat.min_le_left _ _,fun _ _=>rfl⟩
theorem Ext.trans{a b c:af}(h:Ext a b)(k:Ext b c):Ext a c:=
 ⟨Nat.le_trans h.next k.next,fun l=>k.low (h.low l),by
  have h1:=h.vD;have h2:=k.vD;have h3:=h.next;have:Nat.min a.low a.next<=a.next:=Nat.min_le_right _ _;have h4:Nat.min a.low a.next<=Nat.min b.low b.next:=Nat.le_min.2 ⟨h1,om⟩;omega,fun i hi=>(k.get i (Nat.lt_of_lt_of_le hi h.next)).trans (h.get i hi)⟩
theorem Ext.push(h:af)(es:Nat)(cs:List Value):Ext h (h.push es cs):=
 ⟨by simp[af.push],fun l=>by simp only[af.push];omega,by simp only[af.push];exact Nat.min_le_left _ _,fun b hb=>by simp only[af.push];rw[cQ.aS _ _ om]⟩
theorem Ext.aG(h:af)(n:Nat):Ext h (h.aG n):=
 ⟨by simp[af.aG],fun l=>by simp only[af.aG];omega,by simp only[af.aG];exact Nat.min_le_left _ _,fun b hb=>rfl⟩
theorem Ext.write{h h1 h':af}(k:Ext h h1){b o:Nat}{vs:List Value}(hb:h.next<=b)(hw:h1.write b o vs=some h'):Ext h h':=by
 have kb:=bI.write (B:=0) hw;unfold af.write at hw;split at hw
 ·split at hw
  ·simp only[oi]at hw
   subst hw;refine⟨k.next,fun l=>?_,?_,fun i hi=>?_⟩
   ·have:=k.low l
    have h2:Nat.min h1.low b<=h1.low:=Nat.min_le_left _ _;show Nat.min h1.low b<=h1.next;omega
   ·have:=k.vD
    show Nat.min h.low h.next<=Nat.min h1.low b;have h2:Nat.min h.low h.next<=h.next:=Nat.min_le_right _ _;exact Nat.le_min.2 ⟨this,om⟩
   ·show(h1.m.set b _).get i=_
    rw[cQ.aS _ _ om];exact k.get i hi
  ·cases hw
 ·cases hw
theorem Ext.kill{h h1:af}(k:Ext h h1){b:Nat}(hb:h.next<=b):Ext h (h1.kill b):=by
 refine⟨k.next,fun l=>?_,?_,fun i hi=>?_⟩
 ·have:=k.low l
  have h2:Nat.min h1.low b<=h1.low:=Nat.min_le_left _ _;show Nat.min h1.low b<=h1.next;omega
 ·have:=k.vD
  show Nat.min h.low h.next<=Nat.min h1.low b;have h2:Nat.min h.low h.next<=h.next:=Nat.min_le_right _ _;exact Nat.le_min.2 ⟨this,om⟩
 ·show(h1.m.set b _).get i=_
  rw[cQ.aS _ _ om];exact k.get i hi
theorem Ext.cells{h h':af}(k:Ext h h'){b:Nat}(hb:b<h.next):h'.cells? b=h.cells? b:=by
 unfold af.cells?;rw[k.get b hb]
def Cells(h:af)(a:Option Addr)(n es:Nat)(cells:List Value):Prop:=
 match a with
 |none=>n=0/\cells=[]
 |some ad=>ad.spot=none/\ad.block<h.next/\h.aM ad (n*es)=some cells
theorem Cells.ext{h h':af}{a:Option Addr}{n es:Nat}{cells:List Value}(c:Cells h a n es cells)(k:Ext h h'):Cells h' a n es cells:=by
 cases a with
 |none=>exact c
 |some ad=>
  obtain⟨h1,h2,h3⟩:=c;refine⟨h1,Nat.lt_of_lt_of_le h2 k.next,?_⟩;unfold af.aM at h3 ⊢;rw[k.cells h2];exact h3
theorem Cells.length{h:af}{a:Option Addr}{n es:Nat}{cells:List Value}(c:Cells h a n es cells):cells.length=n*es:=by
 cases a with
 |none=>obtain⟨rfl,rfl⟩:=c;simp
 |some ad=>
  obtain⟨h1,h2,h3⟩:=c;unfold af.aM at h3;rw[h1]at h3;simp only[]at h3;split at h3
  ·exact(nu h3).1
  ·cases h3
theorem nS{cs:List Value}{off n:Nat}{l:List Value}(h:(cs.drop off).take n=l)(hl:l.length=n):jR cs off n=some l:=by
 unfold jR;simp only[h,hl];simp
theorem Dw{cs:List Value}{off n:Nat}{l:List Value}(h:jR cs off n=some l):(cs.drop off).take n=l/\l.length=n:=by
 have h1:=(nu h).1;unfold jR at h;obtain⟨_,h2⟩:=lF h;exact⟨h2,h1⟩
theorem Cells.at{h:af}{a:Option Addr}{n es:Nat}{cells:List Value}(c:Cells h a n es cells){i m:Nat}(hi:i+m<=n*es)(hm:0<m):∃b o,a=some ⟨b,o,none⟩/\b<h.next/\h.aM ⟨b,o+i,none⟩ m=some ((cells.drop i).take m):=by
 have hlen:=c.length;cases a with
 |none=>obtain⟨rfl,rfl⟩:=c;simp at hi;omega
 |some ad=>
  obtain⟨h1,h2,h3⟩:=c;obtain⟨b,o,sp⟩:=ad;simp only at h1;subst h1;refine⟨b,o,rfl,h2,?_⟩;unfold af.aM at h3 ⊢;simp only[]at h3 ⊢;split at h3
  ·rename_i cs vN
   obtain⟨e1,e2⟩:=Dw h3;refine nS ?_ ?_
   ·subst e1
    rw[List.drop_take,List.take_take,List.drop_drop,Nat.min_eq_left om]
   ·simp only[List.length_take,List.length_drop];omega
  ·cases h3
theorem take_one{α:Type}(l:List α)(i:Nat)(x:α)(h:l[i]?=some x):(l.drop i).take 1=[x]:=by
 obtain⟨hi,rfl⟩:=List.getElem?_eq_some_iff.1 h;rw[List.drop_eq_getElem_cons hi,List.take_succ_cons,List.take_zero]
def dV(l:List Int)(i:Int):Int:=l.getD i.toNat 0
theorem wrap64{x:Int}(h1:-9223372036854775808<=x)(h2:x<9223372036854775808):IntKind.wrap .i64 x=x:=by
 unfold IntKind.wrap;simp[IntKind.bits,IntKind.signed,IntKind.min,IntKind.max];omega
theorem U2{x:Int}(h1:0<=x)(h2:x<256):IntKind.wrap .u8 x=x:=by
 unfold IntKind.wrap;simp[IntKind.bits,IntKind.signed,IntKind.min,IntKind.max];omega
end Go.cS
namespace Go.cS
def bW(h:af)(b es:Nat)(cells:List Value):Prop:=h.m.get b=some (.live true es cells)
theorem bW.push(h:af)(es:Nat)(cs:List Value):bW (h.push es cs) h.next es cs:=by
 unfold bW af.push;simp only[];rw[cQ.gQ]
theorem bW.putAt(h:af)(id es:Nat)(cs:List Value):bW (h.putAt id es cs) id es cs:=by
 unfold bW af.putAt;simp only[];rw[cQ.gQ]
theorem bW.ext{h h':af}{b es:Nat}{cells:List Value}(c:bW h b es cells)(k:Ext h h')(hb:b<h.next):bW h' b es cells:=by
 unfold bW;rw[k.get b hb];exact c
theorem bW.aM{h:af}{b es:Nat}{cells:List Value}(c:bW h b es cells){o n:Nat}(hn:o+n<=cells.length):h.aM ⟨b,o,none⟩ n=some ((cells.drop o).take n):=by
 unfold af.aM af.cells?;simp only[];rw[show h.m.get b=some (.live true es cells)from c];exact nS rfl (by simp only[List.length_take,List.length_drop];omega)
structure j7(h h':af)(b:Nat):Prop where
 next:h'.next=h.next
 low:h'.low=Nat.min h.low b
 get:∀b',b'≠b->h'.m.get b'=h.m.get b'
theorem bW.write{h:af}{b es:Nat}{cells:List Value}(c:bW h b es cells){o:Nat}{vs:List Value}(hn:o+vs.length<=cells.length):∃h',h.write b o vs=some h'/\bW h' b es (cells.take o++(vs++cells.drop (o+vs.length)))/\j7 h h' b:=by
 refine⟨{ next:=h.next,low:=Nat.min h.low b,m:=h.m.set b (.live true es (cells.take o++(vs++cells.drop (o+vs.length)))) },?_,?_,rfl,rfl,fun b' uP=>?_⟩
 ·unfold af.write
  rw[show h.m.get b=some (.live true es cells)from c];simp only[mr];rw[bm hn];rfl
 ·unfold bW;simp only[];rw[cQ.gQ]
 ·simp only[];rw[cQ.aS _ _ (fun e=>uP e.symm)]
theorem j7.ext{h0 h h':af}{b:Nat}(k:j7 h h' b)(e:Ext h0 h)(hb:h0.next<=b):Ext h0 h':=by
 refine⟨by rw[k.next];exact e.next,fun l=>?_,?_,fun i hi=>?_⟩
 ·have:=e.low l
  rw[k.low,k.next];have h2:Nat.min h.low b<=h.low:=Nat.min_le_left _ _;omega
 ·have:=e.vD
  rw[k.low];have h2:Nat.min h0.low h0.next<=h0.next:=Nat.min_le_right _ _;exact Nat.le_min.2 ⟨this,om⟩
 ·rw[k.get i om];exact e.get i hi
theorem j7.own{h h':af}{b b' es:Nat}{cells:List Value}(k:j7 h h' b)(c:bW h b' es cells)(hb:b'≠b):bW h' b' es cells:=by
 unfold bW;rw[k.get b' hb];exact c
theorem Ext.aC{h h':af}(e:Ext h h')(hl:h.low<=h.next):h'.low<=h'.next:=e.low hl
theorem Ext.dK(h:af):Ext h h.dK:=⟨Nat.le_refl _,fun _=>Nat.le_refl _,Nat.min_le_right _ _,fun _ _=>rfl⟩
theorem Dx(h:af):h.dK.low<=h.dK.next:=Nat.le_refl _
theorem vE{h:af}(hl:h.low<=h.next):h.dK.az h.low=h:=by
 unfold af.az af.dK;have:Nat.min h.low h.next=h.low:=Nat.min_eq_left hl;simp only[this]
theorem zx(h:af):Nat.blt h.dK.low h.next=false:=cF (Nat.le_refl _)
theorem zy{α:Type}(l:List α)(i:Nat)(x:α)(hi:i<l.length):l.take i++([x]++l.drop (i+1))=l.set i x:=by
 rw[List.set_eq_take_append_cons_drop,if_pos hi];simp
theorem bW.setInt{h:af}{b es:Nat}{k:IntKind}{l:List Int}(c:bW h b es (l.map (.int k))){i:Nat}(hi:i<l.length)(x:Int):∃h',h.write b i [.int k x]=some h'/\bW h' b es ((l.set i x).map (.int k))/\j7 h h' b:=by
 obtain⟨h',h1,h2,h3⟩:=c.write (o:=i) (vs:=[.int k x]) (by simp;omega);refine⟨h',h1,?_,h3⟩;rw[List.map_set,<-zy _ _ _ (by simpa using hi)];exact h2
theorem bW.getInt{h:af}{b es:Nat}{k:IntKind}{l:List Int}(c:bW h b es (l.map (.int k))){i:Nat}(hi:i<l.length):h.aM ⟨b,i,none⟩ 1=some [.int k (l.getD i 0)]:=by
 rw[c.aM (by simp;omega),take_one _ i (.int k (l.getD i 0)) (by simp[hi])]
def oD(h:af)(es:Nat)(a:Option Addr)(n c:Nat)(cells:List Value):Prop:=
 (a=none/\n=0/\c=0/\cells=[])\/(∃b,a=some ⟨b,0,none⟩/\c=aw es n/\b<h.next/\cells.length=n*es/\bW h b es cells)
theorem oD.nil(h:af)(es:Nat):oD h es none 0 0 []:=.inl ⟨rfl,rfl,rfl,rfl⟩
theorem oD.cells{h:af}{es:Nat}{a:Option Addr}{n c:Nat}{cells:List Value}(p:oD h es a n c cells):Cells h a n es cells:=by
 rcases p with ⟨rfl,rfl,rfl,rfl⟩|⟨b,rfl,rfl,hb,hl,ho⟩
 ·exact⟨rfl,rfl⟩
 ·exact⟨rfl,hb,by rw[ho.aM om];simp[<-hl]⟩
theorem oD.ext{h h':af}{es:Nat}{a:Option Addr}{n c:Nat}{cells:List Value}(p:oD h es a n c cells)(k:Ext h h'):oD h' es a n c cells:=by
 rcases p with ⟨rfl,rfl,rfl,rfl⟩|⟨b,rfl,rfl,hb,hl,ho⟩
 ·exact .nil _ _
 ·exact .inr ⟨b,rfl,rfl,Nat.lt_of_lt_of_le hb k.next,hl,ho.ext k hb⟩
def ky(m:Nat)(a:Option Addr):Prop:=∀ad,a=some ad->m<=ad.block
theorem ky.none(m:Nat):ky m none:=fun _ h=>by cases h
structure fZ(P:Program)(t e es:Nat):Prop where
 ye:P.underlying t=some (.slice e)
 size:bS P e=some es
 bytes:∃by_,oP P e=some by_/\by_<=16384
 zero:∃z,ia P e=some z/\z.cells.toList.length=es
theorem Af{P:Program}{t t2 e es:Nat}(hT:fZ P t e es)(I2:P.underlying t2=some (.slice e)){h:af}{a a2:Option Addr}{n c n2 c2:Nat}{cells news:List Value}(hp:oD h es a n c cells)(hs:Cells h a2 n2 es news)(fz:cells.all aE=true)(qQ:news.all aE=true)(zz:0<n2)(tV:n+n2<=1000000) :
  ∃a' c' h',cN P h [t,t2] [.slice a n c,.slice a2 n2 c2]=some (.slice a' (n+n2) c',h')/\oD h' es a' (n+n2) c' (cells++news)/\(∀h0,Ext h0 h->ky h0.next a->Ext h0 h'/\ky h0.next a'):=by
 obtain⟨by_,qY,nB⟩:=hT.bytes;obtain⟨z,hz,za⟩:=hT.zero;have sF:=hs.length;have gK:jy P h e es false (.slice a2 n2 c2)=some (n2,news):=by
  unfold jy;simp only[cond_false];cases a2 with
  |none=>obtain⟨rfl,rfl⟩:=hs;omega
  |some ad=>
   obtain⟨h1,h2,h3⟩:=hs;simp only[h3]
 unfold cN;simp only[hT.ye,hT.size,qY,I2,hz,cT,gK];rcases hp with ⟨rfl,rfl,rfl,rfl⟩|⟨b,rfl,rfl,hb,hl,ho⟩
 ·have e1:cL 0=0:=rfl
  rw[e1,fe om];simp only[cond_false];rw[bm (show 0+n2<=1073741824 by omega),bm nB,qQ,za,sF];simp only[Bool.and_self,Nat.beq_refl,cond_true];refine⟨_,_,_,rfl,.inr ⟨h.next,rfl,rfl,by simp[af.push],by simp[sF],?_⟩,fun h0 e0 f0=>⟨e0.trans (.push _ _ _),?_⟩⟩
  ·rw[List.nil_append];exact bW.push _ _ _
  ·intro ad cX
   cases cX;exact e0.next
 ·have e1:cL (aw es n)=n:=cg (by unfold aR;omega)
  rw[e1,fe om];simp only[cond_false];rw[bm (show n+n2<=1073741824 by omega),bm nB,qQ,za,sF];simp only[Bool.and_self,Nat.beq_refl,cond_true];have hr:h.aM ⟨b,0,none⟩ (n*es)=some cells:=by rw[ho.aM om];simp[<-hl]
  simp only[hr];rw[cF (dv es n),fz];simp only[cond_false,cond_true];rw[show h.m.get b=some (.live true es cells)from ho];simp only[Nat.beq_refl,cond_true];refine⟨_,_,_,rfl,.inr ⟨h.next,rfl,rfl,by simp[af.push,af.kill],by simp[sF,hl,Nat.add_mul],?_⟩,fun h0 e0 f0=>⟨?_,?_⟩⟩
  ·exact bW.push (h.kill b) es _
  ·exact(e0.kill (f0 _ rfl)).trans (.push _ _ _)
  ·intro ad cX
   cases cX;exact e0.next
theorem R6(l:List Int){i:Int}(h0:0<=i)(h1:i<l.length):l.take (i+1).toNat=l.take i.toNat++[dV l i]:=by
 have e:(i+1).toNat=i.toNat+1:=om
 have hi:i.toNat<l.length:=om
 rw[e,List.take_add_one,List.getElem?_eq_getElem hi];unfold dV;simp[hi]
theorem Hk(l:List Int){i j:Int}(hi:0<=i)(hj:0<=j)(hl:i<l.length)(x:Int):dV (l.set i.toNat x) j=if j=i then x else dV l j:=by
 unfold dV;by_cases e:j=i
 ·subst e;rw[if_pos rfl];simp[show j.toNat<l.length by omega]
 ·rw[if_neg e]
  have:i.toNat≠j.toNat:=om
  simp[List.getD_eq_getElem?_getD,List.getElem?_set_ne this]
theorem I3{l m:List Int}(hl:l.length=m.length)(h:∀i:Int,0<=i->i<l.length->dV l i=dV m i):l=m:=by
 apply List.ext_getElem hl;intro i h1 h2;have:=h i om om;unfold dV at this;simpa[h1,h2]using this
end Go.cS
namespace Go.cS
theorem u7{P:Program}{t t2 e es:Nat}(hT:fZ P t e es)(I2:P.underlying t2=some (.slice e)){h:af}{a a2:Option Addr}{n c n2 c2:Nat}{cells news:List Value}(hp:oD h es a n c cells)(hs:Cells h a2 n2 es news)(fz:cells.all aE=true)(qQ:news.all aE=true)(zz:0<n2)(tV:n+n2<=1000000) :
  ∃a' c' h',cN P h [t,t2] [.slice a n c,.slice a2 n2 c2]=some (.slice a' (n+n2) c',h')/\oD h' es a' (n+n2) c' (cells++news)/\(∀h0,Ext h0 h->ky h0.next a->Ext h0 h'/\ky h0.next a')/\h.next<=h'.next/\ky h.next a'/\∀i,i<h.next->(∀ad,a=some ad->ad.block≠i)->h'.m.get i=h.m.get i:=by
 obtain⟨by_,qY,nB⟩:=hT.bytes;obtain⟨z,hz,za⟩:=hT.zero;have sF:=hs.length;have gK:jy P h e es false (.slice a2 n2 c2)=some (n2,news):=by
  unfold jy;simp only[cond_false];cases a2 with
  |none=>obtain⟨rfl,rfl⟩:=hs;omega
  |some ad=>
   obtain⟨h1,h2,h3⟩:=hs;simp only[h3]
 unfold cN;simp only[hT.ye,hT.size,qY,I2,hz,cT,gK];rcases hp with ⟨rfl,rfl,rfl,rfl⟩|⟨b,rfl,rfl,hb,hl,ho⟩
 ·have e1:cL 0=0:=rfl
  rw[e1,fe om];simp only[cond_false];rw[bm (show 0+n2<=1073741824 by omega),bm nB,qQ,za,sF];simp only[Bool.and_self,Nat.beq_refl,cond_true];refine⟨_,_,_,rfl,.inr ⟨h.next,rfl,rfl,by simp[af.push],by simp[sF],?_⟩,fun h0 e0 f0=>⟨e0.trans (.push _ _ _),?_⟩,?_,?_,?_⟩
  ·rw[List.nil_append];exact bW.push _ _ _
  ·intro ad cX
   cases cX;exact e0.next
  ·exact Nat.le_succ _
  ·intro ad cX
   cases cX;exact Nat.le_refl _
  ·intro i hi _
   show(h.m.set h.next _).get i=_;rw[cQ.aS _ _ om]
 ·have e1:cL (aw es n)=n:=cg (by unfold aR;omega)
  rw[e1,fe om];simp only[cond_false];rw[bm (show n+n2<=1073741824 by omega),bm nB,qQ,za,sF];simp only[Bool.and_self,Nat.beq_refl,cond_true];have hr:h.aM ⟨b,0,none⟩ (n*es)=some cells:=by rw[ho.aM om];simp[<-hl]
  simp only[hr];rw[cF (dv es n),fz];simp only[cond_false,cond_true];rw[show h.m.get b=some (.live true es cells)from ho];simp only[Nat.beq_refl,cond_true];refine⟨_,_,_,rfl,.inr ⟨h.next,rfl,rfl,by simp[af.push,af.kill],by simp[sF,hl,Nat.add_mul],?_⟩,fun h0 e0 f0=>⟨?_,?_⟩,?_,?_,?_⟩
  ·exact bW.push (h.kill b) es _
  ·exact(e0.kill (f0 _ rfl)).trans (.push _ _ _)
  ·intro ad cX
   cases cX;exact e0.next
  ·exact Nat.le_succ _
  ·intro ad cX
   cases cX;exact Nat.le_refl _
  ·intro i hi dX
   show((h.m.set b _).set h.next _).get i=_;rw[cQ.aS _ _ om,cQ.aS _ _ (dX _ rfl)]
theorem bW.gH{h h':af}{b es:Nat}{cells:List Value}(c:bW h b es cells)(e:h'.m.get b=h.m.get b):bW h' b es cells:=by
 unfold bW at c ⊢;rw[e];exact c
theorem oD.gH{h h':af}{es:Nat}{a:Option Addr}{n c:Nat}{cells:List Value}(p:oD h es a n c cells)(hn:h.next<=h'.next)(e:∀ad,a=some ad->ad.block<h.next->h'.m.get ad.block=h.m.get ad.block):oD h' es a n c cells:=by
 rcases p with ⟨rfl,rfl,rfl,rfl⟩|⟨b,rfl,rfl,hb,hl,ho⟩
 ·exact .nil _ _
 ·exact .inr ⟨b,rfl,rfl,Nat.lt_of_lt_of_le hb hn,hl,ho.gH (e _ rfl hb)⟩
theorem oD.lt{h:af}{es:Nat}{a:Option Addr}{n c:Nat}{cells:List Value}(p:oD h es a n c cells):∀ad,a=some ad->ad.block<h.next:=by
 rcases p with ⟨rfl,rfl,rfl,rfl⟩|⟨b,rfl,rfl,hb,hl,ho⟩
 ·intro ad h;cases h
 ·intro ad h;cases h;exact hb
end Go.cS
namespace Go.cS
def FO(h:af)(es b n c:Nat)(cells:List Value):Prop:=bW h b es cells/\b<h.next/\cells.length=n*es/\((c=0/\n=0)\/c=aw es n)
theorem FQ{P:Program}{t t2 e es:Nat}(hT:fZ P t e es)(I2:P.underlying t2=some (.slice e)){h:af}{b n c n2 c2:Nat}{a2:Option Addr}{cells news:List Value}(hp:FO h es b n c cells)(hs:Cells h a2 n2 es news)(fz:cells.all aE=true)(qQ:news.all aE=true)(tV:n+n2<=1000000) :
  ∃b' c' h',cN P h [t,t2] [.slice (some ⟨b,0,none⟩) n c,.slice a2 n2 c2]=some (.slice (some ⟨b',0,none⟩) (n+n2) c',h')/\FO h' es b' (n+n2) c' (cells++news)/\(∀h0,Ext h0 h->h0.next<=b->Ext h0 h'/\h0.next<=b'):=by
 obtain⟨ho,hb,hl,hc⟩:=hp;obtain⟨by_,qY,nB⟩:=hT.bytes;obtain⟨z,hz,za⟩:=hT.zero;have sF:=hs.length;have gK:jy P h e es false (.slice a2 n2 c2)=some (n2,news):=by
  unfold jy;simp only[cond_false];cases a2 with
  |none=>obtain⟨rfl,rfl⟩:=hs;simp
  |some ad=>
   obtain⟨h1,h2,h3⟩:=hs;simp only[h3]
 have Iz:cL c=n:=by
  rcases hc with ⟨rfl,rfl⟩|rfl
  ·rfl
  ·exact cg (by unfold aR;omega)
 unfold cN;simp only[hT.ye,hT.size,qY,I2,hz,cT,gK];rw[Iz];by_cases h0:n2=0
 ·subst h0
  have:news=[]:=by simpa using sF
  subst this;obtain⟨h',hw,mB,o7⟩:=ho.write (o:=n*es) (vs:=[]) (by simp;omega);have U3:h.ik (fT ⟨b,0,none⟩ (n*es)) []=some h':=by
   unfold af.ik fT;simp only[List.all_nil,cond_true,Nat.zero_add];exact hw
  rw[bm (show n+0<=n by omega)];simp only[cond_true,U3];have e2:cells.take (n*es)++([]++cells.drop (n*es+([]:List Value).length))=cells:=by simp
  rw[e2]at mB;exact⟨b,c,h',rfl,⟨by simpa using mB,by rw[o7.next];exact hb,by simpa using hl,hc⟩,fun h0 e0 mL=>⟨o7.ext e0 mL,mL⟩⟩
 ·rw[fe om]
  simp only[cond_false];rw[bm (show n+n2<=1073741824 by omega),bm nB,qQ,za,sF];simp only[Bool.and_self,Nat.beq_refl,cond_true];have hr:h.aM ⟨b,0,none⟩ (n*es)=some cells:=by rw[ho.aM om];simp[<-hl]
  simp only[hr];rcases hc with ⟨rfl,rfl⟩|rfl
  ·rw[dW (show 0<aR by unfold aR;omega),fz]
   simp only[cond_true];refine⟨_,_,_,rfl,⟨bW.push _ _ _,by simp[af.push],by simp[hl,sF],.inr rfl⟩,fun h0 e0 mL=>⟨e0.trans (.push _ _ _),e0.next⟩⟩
  ·rw[cF (dv es n),fz]
   simp only[cond_false,cond_true];rw[show h.m.get b=some (.live true es cells)from ho];simp only[Nat.beq_refl,cond_true];refine⟨_,_,_,rfl,⟨bW.push (h.kill b) es _,by simp[af.push,af.kill],by simp[hl,sF,Nat.add_mul],.inr rfl⟩,fun h0 e0 mL=>⟨(e0.kill mL).trans (.push _ _ _),?_⟩⟩;exact e0.next
end Go.cS
namespace Go.cS
open Go.RowKit
def mD:Value->Bool
 | .agg cs=>cs.toList.all bk
 |v=>bk v
def rL:Value->Bool
 | .tuple cs=>cs.toList.all mD
 |v=>mD v
theorem fF.Bn{g:Nat->Option Loc}{P:Value->Bool}(hP:∀v c,VG g v c->P v=true->c=v):∀{l l':List Value},fF g l l'->l.all P=true->l'=l
 | [],l',h,_=>h.iL
 |u :: l,l',h,hf=>by
  obtain⟨v,l2,rfl,hv,hl⟩:=h.head;simp only[List.all_cons,Bool.and_eq_true]at hf;rw[fF.Bn hP hl hf.2,hP u v hv hf.1]
theorem VG.yf{g:Nat->Option Loc}{u v:Value}(hv:VG g u v)(hu:bk u=true):v=u:=by
 cases hv with
 |flat _ _=>rfl
 |zf=>simp[bk]at hu
 |ptr=>simp[bk]at hu
 |gG=>simp[bk]at hu
 |gR=>simp[bk]at hu
 |ko=>simp[bk]at hu
 |jC=>simp[bk]at hu
 |wH=>simp[bk]at hu
 |yield=>simp[bk]at hu
 |func=>simp[bk]at hu
 |agg=>simp[bk]at hu
 |tuple=>simp[bk]at hu
theorem VG.uq{g:Nat->Option Loc}{u v:Value}(hv:VG g u v)(hu:mD u=true):v=u:=by
 unfold mD at hu;split at hu
 ·rename_i cs
  cases hv with
  |flat _ _=>rfl
  |agg _ x' hx h1=>
   have:=fF.Bn (P:=bk) (fun _ _=>VG.yf) (l:=cs.toList) (l':=x'.toList) ⟨hx,h1⟩ hu;rw[Array.toList_inj.1 this]
 ·exact hv.yf hu
theorem VG.I4{g:Nat->Option Loc}{u v:Value}(hv:VG g u v)(hu:rL u=true):v=u:=by
 unfold rL at hu;split at hu
 ·rename_i cs
  cases hv with
  |flat _ _=>rfl
  |tuple _ x' hx h1=>
   have:=fF.Bn (P:=mD) (fun _ _=>VG.uq) (l:=cs.toList) (l':=x'.toList) ⟨hx,h1⟩ hu;rw[Array.toList_inj.1 this]
 ·exact hv.uq hu
theorem VG.uu{g:Nat->Option Loc}{v:Value}(h:mD v=true):VG g v v:=by
 unfold mD at h;split at h
 ·exact .agg _ _ rfl (fF.flat h).2
 ·exact .flat _ h
theorem VG.I5{g:Nat->Option Loc}{v:Value}(h:rL v=true):VG g v v:=by
 unfold rL at h;split at h
 ·refine .tuple _ _ rfl (fun i u w h1 h2=>?_)
  rw[h1]at h2;cases h2;exact .uu (List.all_eq_true.1 h u (List.mem_of_getElem? h1))
 ·exact .uu h
def pJ(f:FuncId->List Value->Option Value)(F:aZ):aZ:=fun g args h=>
 match f g args with
 |some v=>some (v,h)
 |none=>F g args h
theorem Dy{P : Program}{H : Hint}{F0 F : aZ}{f : FuncId → List Value → Option Value}(hm : P.follows .mixedOrders = true)(hF0 : dx P F0)(YF : aW F0)(cE : ∀ (g : FuncId) (fn : Func), P.funcs[g]? = some fn → (fn.name == "runtime.NumGoroutine") = false)
  (hf:∀(g:FuncId) (args:List Value) (v:Value),f g args=some v->args.all mD=true/\rL v=true/\(∃fn,P.funcs[g]?=some fn/\fn.body.isSome=true)/\∃h',NR P H F0 g args kq v h') (hF:dx P F):dx P (pJ f F):=by
 intro g args h v h' hc hg G w aU hR hA;unfold pJ at hc;split at hc
 ·rename_i u hu
  simp only[oi,pj]at hc;obtain⟨rfl,rfl⟩:=hc;obtain⟨h1,h2,⟨fn,yY,hb⟩,h3,hr⟩:=hf g args u hu;have ha:=fF.Bn (P:=mD) (fun _ _=>VG.uq) hA h1;subst ha;have hR0:HR ⟨fun _=>none,fun _=>none⟩ (im kq) w:=
   { cP:=(fun id L h=>by cases h),dg:=(fun id L h=>by cases h),cG:=(fun id L b h=>by cases h),dh:=(fun id oS L L' b b' h=>by cases h),eE:=(fun t L h=>by cases h),dS:=(fun t L h=>by cases h),eO:=(fun t t' L L' h=>by cases h),sep:=(fun id t L L' h=>by cases h) }
  have self:fF (fun _=>none) aU aU:=⟨rfl,fun i u v sI I6=>by
   rw[sI]at I6;cases I6;exact .uu (List.all_eq_true.1 h1 u (List.mem_of_getElem? sI))⟩
  have hd:=hr.ok hm hF0 YF cE hg hR0 self;refine hd.mono (fun c w' ⟨G',hv,hG,_⟩=>?_);have G5:Below w.heap.size w w':=⟨hG.os,hG.tape,hG.output,hG.size,fun k hk=>hG.frame k hk (fun id L h=>by cases h) (fun t L h=>by cases h)⟩;rw[hv.I4 h2];exact⟨G,.I5 h2,.grown hR G5,.refl _ _⟩
 ·exact hF g args h v h' hc hg G w aU hR hA
theorem zA{f:FuncId->List Value->Option Value}{F:aZ}(hF:aW F):aW (pJ f F):=by
 intro g args h v h' hc;unfold pJ at hc;split at hc
 ·simp only[oi,pj]at hc
  obtain⟨_,rfl⟩:=hc;exact .refl _ _
 ·exact hF g args h v h' hc
end Go.cS
namespace Go.cS
open Go.RowKit
def af.Lk(h:af):af:={ h with low:=h.next }
theorem Ll{G:Nat->Option Loc}{h:af}{w:World}(hR:HR ⟨G,fun _=>none⟩ (im h) w):HR ⟨G,fun _=>none⟩ (im h.Lk) w:=
 { cP:=hR.cP,dg:=hR.dg,cG:=hR.cG,dh:=hR.dh,eE:=hR.eE,dS:=hR.dS,eO:=hR.eO,sep:=hR.sep }
end Go.cS
namespace Go.cS
open Go.RowKit
variable{P:Program}
def WN(P:Program)(nt:Nat)(c:Code)(s:St)(Q:Exit->St->Prop):Prop:=
 ∀(J:dI) (w:World) (a:Act),HR J s w->ER J s a->nt<=a.tmps.size->c.wpIn (Wd none) 0 P (fun e a' w'=>∃s',Q e s'/\kC J s w a s' a' w') a w
theorem WN.mono{nt:Nat}{c:Code}{s:St}{Q Q':Exit->St->Prop}(h:WN P nt c s Q)(hq:∀e s',Q e s'->Q' e s'):WN P nt c s Q':=
 fun J w a hR hE hn=>wpIn_mono (h J w a hR hE hn) (fun e a' w' ⟨s',q,p⟩=>⟨s',hq e s' q,p⟩)
theorem WN.det{run:FuncId->Nat->Code->St->Option (Exit×St)}(hr:xh P run){f:FuncId}{nt:Nat}{c:Code}{s s':St}{x:Exit}{Q:Exit->St->Prop}(h:run f nt c s=some (x,s'))(hq:Q x s'):WN P nt c s Q:=
 fun J w a hR hE hn=>wpIn_mono (hr f nt c s x s' h none (.inl rfl) J w a hR hE hn) (fun e a' w' ⟨he,p⟩=>⟨s',by rw[he];exact hq,p⟩)
theorem WN.seq{nt:Nat}{c d:Code}{s:St}{Q:Exit->St->Prop}(h:WN P nt c s (fun e s1=>match e with | .normal=>WN P nt d s1 Q|e=>Q e s1)):WN P nt (.seq c d) s Q:=by
 intro J w a hR hE hn;refine wpIn_seq (wpIn_mono (h J w a hR hE hn) ?_);rintro e a1 w1 ⟨s1,q,J1,q1,q2,q3,q4,q5⟩;cases e with
 |normal=>
  show d.wpIn (Wd none) 0 P _ a1 w1;refine wpIn_mono (q J1 w1 a1 q1.hr q2 (by rw[q3];exact hn)) ?_;rintro e a2 w2 ⟨s2,r,p⟩;exact⟨s2,r,kC.trans q1 q3 q4 q5 p⟩
 |_=>exact rG (by simp) ⟨s1,q,J1,q1,q2,q3,q4,q5⟩
theorem WN.OO{g : FuncId}{fn : Func}{c : Code}(yY : P.funcs[g]? = some fn)(hb : fn.body = some c)(cE : (fn.name == "runtime.NumGoroutine") = false){args : List Value}{h : af}{R : Value → af → Prop}
  (hw:WN P fn.ntmps c { env:=fH args 0 .leaf,kn:=0,K:=.leaf,h:=h } (fun e s'=>(e=.normal\/e=.ret)/\∃v h',vp P fn s'=some (v,h')/\R v h'))
  {G:Nat->Option Loc} {w:World} {aU:List Value} (hR:HR ⟨G,fun _=>none⟩ (im h) w) (hA:fF G args aU) :
  sH P g aU.toArray w (fun c w'=>∃v h' G',R v h'/\VG G' v c/\Good ⟨G,fun _=>none⟩ (im h) w ⟨G',fun _=>none⟩ (im h') w'/\fD (h.next<=·) G G'):=by
 left;refine⟨gU yY (by rw[hb];rfl) cE,(callsIn_wide (n:=0)).1 (callsIn_of_wp_marks yY hb trivial ?_)⟩;have Ys:HR ⟨G,fun _=>none⟩ { env:=fH args 0 .leaf,kn:=0,K:=.leaf,h:=h } w:=hR.env _;have Kz:ER ⟨G,fun _=>none⟩ { env:=fH args 0 .leaf,kn:=0,K:=.leaf,h:=h } { tmps:=aU.toArray++Array.replicate (fn.ntmps-aU.toArray.size) undef,defers:=[] }:=by
  intro t u hu;simp only[pt,Nat.zero_le,true_and,Nat.zero_add,Nat.sub_zero]at hu;by_cases ht:t<args.length
  ·rw[if_pos ht]at hu
   have NP:t<aU.length:=by rw[<-hA.1];exact ht
   refine⟨by simp;omega,?_⟩;have:(aU.toArray++Array.replicate (fn.ntmps-aU.toArray.size) undef).getD t undef=aU[t]:=by
    simp[Array.getD,NP,Array.getElem_append,show t<aU.length+(fn.ntmps-aU.length) by omega]
   rw[this];exact .cU _ _ (hA.2 t u _ hu (by simp[NP]))
  ·rw[if_neg ht]at hu;simp[cQ.get]at hu
 have KN:=hw _ w _ Ys Kz (by simp;omega);refine wpIn_mono (F:=Fence.wide) KN ?_;rintro e a' w' ⟨s',⟨hx,v,h',cW,hRv⟩,J',q1,q2,q3,⟨Ds,q4,q6,q7⟩,q5⟩;simp only[List.append_nil]at q4;unfold vp at cW;split at cW
 ·rename_i l hl
  cases hn:l.all dr with
  |false=>rw[hn]at cW;simp at cW
  |true=>
   rw[hn]at cW;simp only[cond_true,oi,pj]at cW;obtain⟨rfl,rfl⟩:=cW;have sN:LeavesInM Fence.wide 0 P fn a'.tmps (fun e w'=>∃c,e=.returned c/\∃v h' G',R v h'/\VG G' v c/\Good ⟨G,fun _=>none⟩ (im h) w ⟨G',fun _=>none⟩ (im h') w'/\fD (h.next<=·) G G') a'.defers .returning w':=by
    rw[q4];refine nI (fun RY=>Good ⟨G,fun _=>none⟩ { env:=fH args 0 .leaf,kn:=0,K:=.leaf,h:=h } w J' s' RY) (fun RY hG=>?_) Ds w' q6 (fun D hD=>(q7 D hD).2.1) q1 (fun RY D hG hD=>hG.UL (q7 D hD).1 (q7 D hD).2.2.1 (q7 D hD).2.2.2 _);obtain⟨cv,r1,r2⟩:=uT hG.hr q2 hl hn;exact⟨cv,r1,cv,rfl,_,_,J'.g,hRv,r2,hG.bare,q5⟩
   rcases hx with rfl|rfl<;>exact sN
 ·cases cW
structure qR(P:Unit->Program)(nt:Nat)(c:Code)(s:SS)(Q:Exit->SS->Prop):Prop where
 go:∀t,Le s t->t.h.low<=t.h.next->WN (P ()) nt c t (fun e t'=>∃s',Le s' t'/\t'.h.low<=t'.h.next/\Q e s')
variable{P:Unit->Program}
theorem qR.run{H : Hint}{F : aZ}{A : bF}(hA : AOK P H F A)(V : Live)(hm : (P ()).follows .mixedOrders = true)(hF : dx (P ()) F)(cE : ∀ (g : FuncId) (fn : Func), (P ()).funcs[g]? = some fn → (fn.name == "runtime.NumGoroutine") = false)
  {f:FuncId} {fn:Func} {c0:Code} (yY:(P ()).funcs[f]?=some fn) (tJ:fn.body=some c0) {c:Code} (hl:bD c=[]) (hr:bE c=[]) {s:SS} {Q:Exit->SS->Prop} (h:wpS P H A V f fn.ntmps c s Q):qR P fn.ntmps c s Q:=by
 refine⟨?_⟩;intro t hs aq;have e:=hA.eq;subst e;obtain⟨x,t',s',⟨n,mK⟩,qO,hq⟩:=FH hA.dG yY tJ c s t Q ⟨(fun b hb=>by rw[hl]at hb;simp at hb),(fun b hb=>by rw[hr]at hb;simp at hb)⟩ hs aq h;have hk:=(gT hA.dG n).1 _ _ _ _ _ _ mK;exact WN.det (sO hm hF hA.dG cE n).1 mK ⟨s',qO,by have h1:=hk.next;have h2:=hk.low;omega,hq⟩
theorem qR.seq{nt:Nat}{c d:Code}{s:SS}{Q:Exit->SS->Prop}(h:qR P nt c s (fun e s1=>match e with | .normal=>qR P nt d s1 Q|e=>Q e s1)):qR P nt (.seq c d) s Q:=by
 refine⟨?_⟩;intro t hs aq;refine WN.seq ((h.go t hs aq).mono ?_);rintro e t1 ⟨s1,q1,q2,q3⟩;cases e with
 |normal=>exact q3.go t1 q1 q2
 |_=>exact⟨s1,q1,q2,q3⟩
theorem qR.less{nt:Nat}{c:Code}{s s0:SS}{Q:Exit->SS->Prop}(he:∀i v,lk s0.env i=some v->lk s.env i=some v)(hK:∀i v,lk s0.K i=some v->lk s.K i=some v)(hk:s0.kn=s.kn)(hh:s0.h=s.h)(h:qR P nt c s0 Q):qR P nt c s Q:=
 ⟨fun t hs aq=>h.go t ⟨fun i v hi=>hs.env i v (he i v hi),fun i v hi=>hs.K i v (hK i v hi),by rw[hk];exact hs.kn,by rw[hh];exact hs.h⟩ aq⟩
theorem FR{α:Type}:∀{l:List (Nat×α)} {i:Nat} {v:α},lk l i=some v->(i,v)∈l
 | [],i,v,h=>by simp[lk]at h
 |p :: l,i,v,h=>by
  rw[kO]at h;by_cases e:p.1=i
  ·rw[if_pos e]at h
   obtain rfl:=Option.some.inj h;subst e;exact List.mem_cons_self
  ·rw[if_neg e]at h
   exact List.mem_cons_of_mem _ (FR h)
theorem qR.U4{nt:Nat}{c:Code}{env env0:List (Nat×Value)}{kn:Nat}{K:List (Nat×List Value)}{h:af}{Q:Exit->SS->Prop}(he:∀p∈env0,lk env p.1=some p.2)(hw:qR P nt c ⟨env0,kn,K,h⟩ Q):qR P nt c ⟨env,kn,K,h⟩ Q:=
 qR.less (s0:=⟨env0,kn,K,h⟩) (fun i v hi=>he _ (FR hi)) (fun i v hi=>hi) rfl rfl hw
theorem qR.OO{g : FuncId}{fn : Func}{c : Code}(yY : (P ()).funcs[g]? = some fn)(hb : fn.body = some c)(cE : (fn.name == "runtime.NumGoroutine") = false){args : List Value}{h : af}{i : Tmp}(zn : fn.results.toList = [.tmp i]){R : Value → af → Prop}(hl : h.low ≤ h.next)
  (hw:qR P fn.ntmps c ⟨rk args 0 [],0,[],h⟩ (fun e s'=>(e=.normal\/e=.ret)/\∃v,lk s'.env i=some v/\dr v=true/\R v s'.h))
  {G:Nat->Option Loc} {w:World} {aU:List Value} (hR:HR ⟨G,fun _=>none⟩ (im h) w) (hA:fF G args aU) :
  sH (P ()) g aU.toArray w (fun c w'=>∃v h' G',R v h'/\VG G' v c/\Good ⟨G,fun _=>none⟩ (im h) w ⟨G',fun _=>none⟩ (im h') w'/\fD (h.next<=·) G G'):=by
 refine WN.OO yY hb cE ?_ hR hA;have e:=Bk args 0 [];simp only[E]at e;rw[e];refine(hw.go _ (Hb ⟨rk args 0 [],0,[],h⟩) hl).mono ?_;rintro x t' ⟨s',q1,q2,hx,v,q3,q4,q5⟩;refine⟨hx,v,s'.h,?_,q5⟩;unfold vp;rw[zn];simp only[vo,q1.env _ _ q3];simp only[List.all_cons,q4,List.all_nil,Bool.and_true,cond_true,je,q1.h]
end Go.cS
namespace Go.cS
open Go.RowKit
variable{P:Program}
theorem yg{ro:Option Nat}{H:Hint}{call:cD}(fy:gL P call){f:FuncId}{nt:Nat}{ops:Array Oper}{Q:Exit->Act->World->Prop}(more:Nat):∀(l:List Oper) (k:Nat) (s:St) (J:dI) (w:World) (a:Act) (s':St),
  (∀j,j<l.length->l[j]?=ops[k+j]?)->lj P H call f nt ops l s=some s'->HR J s w->ER J s a->nt<=a.tmps.size->(∀a' w',Fi J s w a s' a' w'->wpOpsIn (Wd ro) 0 P ops Q (List.range' (k+l.length) more) a' w')->wpOpsIn (Wd ro) 0 P ops Q (List.range' k (l.length+more)) a w
 | [],k,s,J,w,a,s',_,h,hR,hE,_,hQ=>by
  simp only[lj,oi]at h;subst h;have:=hQ a w ⟨J,.refl hR,hE,rfl,rfl,.refl _ _⟩;simpa using this
 |o :: l,k,s,J,w,a,s',hl,h,hR,hE,hn,hQ=>by
  have ho:ops[k]?=some o:=by have:=hl 0 (by simp);simpa using this.symm
  have Kk:∀j,j<l.length->l[j]?=ops[k+1+j]?:=fun j hj=>by have:=hl (j+1) (by simpa using hj);simpa[Nat.add_assoc,Nat.add_comm 1 j]using this
  rw[List.length_cons,show l.length+1+more=(l.length+more)+1 by omega,List.range'_succ];simp only[wpOpsIn,ho];simp only[lj]at h;split at h
  ·rename_i hw
   rw[iO hw (hE.gu ops o),if_pos rfl];split at h
   ·rename_i v s1 h1
    split at h
    ·rename_i s2 h2
     refine zT fy hR (hE.ev _) h1 _ Q ?_ ro;intro c w' J' hG Oj hv zj hA _;have Kz:ER J' s1 a:=by
      have:=hE.mono (J':=J') hG.mono Oj;intro t u hu;exact this t u (by rw[zj]at hu;exact hu)
     have RH:=vP h2 Kz hn hv;have CM:Good J s w J' s2 w':=by rw[cK h2];exact hG.env _
     refine yg fy more l (k+1) s2 J' w' (a.put o.dst c) s' Kk h CM.hr RH (by rw[dZ];exact hn) ?_;rintro a' w2 ⟨J2,q1,q2,q3,q4,q5⟩;rw[show k+1+l.length=k+(l.length+1) by omega];exact hQ a' w2 ⟨J2,CM.trans q1,q2,by rw[q3,dZ],by rw[q4,put_defers],hA.trans (q5.mono (fun k hk=>Nat.le_trans CM.next hk))⟩
    ·cases h
   ·cases h
  ·rename_i hw
   rw[iO hw (hE.gu ops o),if_neg (by simp)];split at h
   ·rename_i s1 h1
    have RH:=vP h1 hE hn (c:=undef) (.cU _ _ (VG.of_flat rfl));have CM:Good J s w J s1 w:=by rw[cK h1];exact(Good.refl hR).env _
    refine⟨fun _ _=>trivial,?_⟩;refine yg fy more l (k+1) s1 J w (a.put o.dst undef) s' Kk h CM.hr RH (by rw[dZ];exact hn) ?_;rintro a' w2 ⟨J2,q1,q2,q3,q4,q5⟩;rw[show k+1+l.length=k+(l.length+1) by omega];exact hQ a' w2 ⟨J2,CM.trans q1,q2,by rw[q3,dZ],by rw[q4,put_defers],q5.mono (fun k hk=>Nat.le_trans CM.next hk)⟩
   ·cases h
  ·cases h
theorem WN.cap{H:Hint}{call:cD}(fy:gL P call){f:FuncId}{nt id d:Nat}{x:Operand}{t e:TypeId}{o:Oper}{pre rest:List Oper}{ops:Array Oper}(zi:ops.toList=pre++o :: rest)
  (ho:o.op=.call { callee:=.builtin .cap,args:=#[x],argTypes:=#[t] }) (hd:o.dst=some d) (WX:d<nt) (hg:o.guard=none) (ht:P.underlying t=some (.slice e))
  {s s1:St} (YG:lj P H call f nt ops pre s=some s1) {b:Nat} {off n k:Nat} (hx:bH s1 x=some (.slice (some ⟨b,off,none⟩) n k)) {Q:Exit->St->Prop}
  (h:∀c:Nat,cL k<=c->∃s2,lj P H call f nt ops rest { s1 with env:=s1.env.set d (.int .i64 c) }=some s2/\Q .normal s2):WN P nt (.region id ops false) s Q:=by
 intro J w a hR hE hn;refine wpIn_region ?_;have tP:ops.size=pre.length+(1+rest.length):=by have:=congrArg List.length zi;simp at this;omega
 have h0:∀j,j<pre.length->pre[j]?=ops[0+j]?:=fun j hj=>by rw[Nat.zero_add,<-Array.getElem?_toList,zi,List.getElem?_append_left hj]
 have h1:ops[pre.length]?=some o:=by rw[<-Array.getElem?_toList,zi,List.getElem?_append_right (Nat.le_refl _)];simp
 have U5:∀j,rest[j]?=ops[pre.length+1+j]?:=fun j=>by rw[<-Array.getElem?_toList,zi,List.getElem?_append_right om,show pre.length+1+j-pre.length=j+1 by omega];rfl
 rw[List.range_eq_range',tP];refine yg fy (1+rest.length) pre 0 s J w a s1 h0 YG hR hE hn ?_;rintro a1 w1 ⟨J1,g1,g2,g3,g4,g5⟩;rw[Nat.zero_add,Nat.add_comm 1,List.range'_succ];have hw:Region.wanted o (yielded ops a1.tmps)=true:=by unfold Region.wanted;rw[hg]
 simp only[wpOpsIn,h1,hw,if_true];obtain⟨a',c',Qq,hc⟩:=((g2.eval hx).oX rfl).iy;have WT:∀c,o.op≠.defer c:=fun c e=>by rw[ho]at e;cases e
 have hex:execOp a1.eval o=((Builtin.cap_ #[t] o.type #[.slice a' n c']) >>= fun u=>pure (Next.value u)):=by
  unfold execOp;simp only[ho,resolve,invoke,builtin];simp[Qq]
 obtain⟨s2,k1,k2⟩:=h c' hc;have mK:(Builtin.cap_ #[t] o.type #[.slice a' n c']).run P w1=.ok (.int .i64 c') w1:=by simp[Builtin.cap_,aK ht,goInt]
 have Xb:=dE.op (dE.still (R:=(s1.h.next<=·)) (Rl:=fun _=>False) g1.hr mK (.cU _ _ (VG.of_flat (v:=.int .i64 c') rfl)));rw[<-hex]at Xb;refine CL.RC WT Xb _ _ ?_ none;intro c w' J' hG Oj hv zj hA _;have Kz:ER J' { s1 with env:=s1.env.set d (.int .i64 c') } (a1.put o.dst c):=by
  rw[hd];intro t u hu;have Ru:(s1.env.set d (.int .i64 c')).get t=some u:=hu;rw[cQ.bL]at Ru;show t<(a1.tmps.setIfInBounds d c).size/\VR J' u ((a1.tmps.setIfInBounds d c).getD t undef);by_cases e:d=t
  ·rw[if_pos e]at Ru
   subst e;obtain rfl:=Option.some.inj Ru;refine⟨by simp;omega,?_⟩;rw[show(a1.tmps.setIfInBounds d c).getD d undef=c by simp[Array.getD,show d<a1.tmps.size by omega]];exact hv
  ·rw[if_neg e]at Ru
   obtain⟨k1,k2⟩:=g2 t u Ru;refine⟨by simpa using k1,?_⟩;rw[show(a1.tmps.setIfInBounds d c).getD t undef=a1.tmps.getD t undef by simp[Array.getD,k1,e]];exact k2.mono hG.mono Oj
 refine qp fy rest (pre.length+1) _ J' w' _ s2 U5 k1 (hG.env _).hr Kz (by rw[dZ,g3];exact hn) ?_;rintro a2 w2 ⟨J2,q1,q2,q3,q4,q5⟩;refine⟨s2,k2,J2,g1.trans ((hG.env (s1.env.set d (.int .i64 c'))).trans q1),q2,by rw[q3,dZ,g3],by rw[q4,put_defers,g4];exact .none _ _ _ _,g5.trans (fD.mono (hA.trans (q5.mono (fun k hk=>Nat.le_trans hG.next hk))) (fun k hk=>Nat.le_trans g1.next hk))⟩
end Go.cS
namespace Go.cS
open Go.RowKit
def zB:Value->Bool
 | .slice (some ⟨_,_,none⟩) _ _=>true
 |_=>false
def jm(args:List Value)(h:af):Option (Value×af):=
 match args with
 | [.slice (some ⟨b,0,none⟩) n k,.int .i64 i,.slice (some ⟨vb,0,none⟩) 1 1]=>
  match h.m.get b,h.m.get vb with
  |some (.live true 1 cs),some (.live true 1 [v])=>
   bif Nat.beq k (aw 1 n) && Nat.beq cs.length n && decide (0<=i/\i<n) && cs.all zB && zB v && !(Nat.beq b vb) && Nat.ble n 1000 then
    some (.slice (some ⟨h.next,0,none⟩) (n+1) (aw 1 (n+1)),(h.kill b).push 1 (cs.take i.toNat++v :: cs.drop i.toNat))else none
  |_,_=>none
 |_=>none
def jH(args:List Value)(h:af):Option (Value×af):=
 match args with
 | [.slice (some ⟨a,_,none⟩) _ _,.slice (some ⟨b,_,none⟩) _ _]=>
  match h.m.get a,h.m.get b with
  |some (.live true 1 (_ :: _)),some (.live true 1 (_ :: _))=>bif Nat.beq a b then none else some (.bool false,h)
  |_,_=>none
 |_=>none
def pK(g0:FuncId)(f:List Value->af->Option (Value×af))(F:aZ):aZ:=fun g args h=>bif Nat.beq g g0 then(match f args h with|some r=>some r|none=>F g args h)else F g args h
theorem nT{args:List Value}{h h':af}{r:Value}(hc:jm args h=some (r,h')):∃b n i vb cs v,args=[.slice (some ⟨b,0,none⟩) n (aw 1 n),.int .i64 (Int.ofNat i),.slice (some ⟨vb,0,none⟩) 1 1]/\h.m.get b=some (.live true 1 cs)/\h.m.get vb=some (.live true 1 [v])/\cs.length=n/\i<n/\cs.all zB=true/\zB v=true/\b≠vb/\n<=1000 /\
  r=.slice (some ⟨h.next,0,none⟩) (n+1) (aw 1 (n+1))/\h'=(h.kill b).push 1 (cs.take i++v :: cs.drop i):=by
 unfold jm at hc;split at hc
 ·rename_i b n k i vb
  split at hc
  ·rename_i cs v h1 h2
   obtain⟨hb,hc⟩:=lF hc;simp only[Bool.and_eq_true,decide_eq_true_eq,Bool.not_eq_true']at hb;obtain⟨⟨⟨⟨⟨⟨k1,k2⟩,k3,k4⟩,k5⟩,k6⟩,k7⟩,k8⟩:=hb;have k1:=Nat.eq_of_beq_eq_true k1;have k2:=Nat.eq_of_beq_eq_true k2;have k8:=Nat.le_of_ble_eq_true k8;obtain⟨rfl,rfl⟩:=Prod.mk.inj hc;obtain⟨j,rfl⟩:∃j:Nat,i=j:=⟨i.toNat,om⟩;subst k1;exact⟨b,n,j,vb,cs,v,rfl,h1,h2,k2,om,k5,k6,(fun e=>by rw[e,Nat.beq_refl]at k7;cases k7),k8,rfl,rfl⟩
  ·cases hc
 ·cases hc
end Go.cS
namespace Go.cS
open Go.RowKit
theorem Ag{v:Value}(h:zB v=true):∃b o n k,v=.slice (some ⟨b,o,none⟩) n k:=by
 unfold zB at h;split at h
 ·exact⟨_,_,_,_,rfl⟩
 ·cases h
theorem Dz{P:Program}{g0:FuncId}{f:List Value->af->Option (Value×af)}{F:aZ}(hF:dx P F)
  (hf:∀args h v h',f args h=some (v,h')->∀(G:Nat->Option Loc) (w:World) (aU:List Value),HR ⟨G,fun _=>none⟩ (im h) w->fF G args aU->sH P g0 aU.toArray w (fun c w'=>∃G',VG G' v c/\Good ⟨G,fun _=>none⟩ (im h) w ⟨G',fun _=>none⟩ (im h') w'/\fD (h.next<=·) G G')):dx P (pK g0 f F):=by
 intro g args h v h' hc hg G w aU hR hA;unfold pK at hc;cases hb:Nat.beq g g0 with
 |false=>rw[hb]at hc;exact hF g args h v h' hc hg G w aU hR hA
 |true=>
  obtain rfl:=Nat.eq_of_beq_eq_true hb;rw[hb]at hc;simp only[cond_true]at hc;split at hc
  ·rename_i r hr
   simp only[oi]at hc;subst hc;exact hf args h v h' hr G w aU hR hA
  ·exact hF g args h v h' hc hg G w aU hR hA
theorem yh{g0:FuncId}{f:List Value->af->Option (Value×af)}{F:aZ}(hf:∀args h v h',f args h=some (v,h')->bI h.next h h')(hF:aW F):aW (pK g0 f F):=by
 intro g args h v h' hc;unfold pK at hc;cases hb:Nat.beq g g0 with
 |false=>rw[hb]at hc;exact hF g args h v h' hc
 |true=>
  rw[hb]at hc;simp only[cond_true]at hc;split at hc
  ·rename_i r hr
   simp only[oi]at hc;subst hc;exact hf args h v h' hr
  ·exact hF g args h v h' hc
theorem Bp(args:List Value)(h:af)(v:Value)(h':af)(hc:jm args h=some (v,h')):bI h.next h h':=by
 obtain⟨b,n,i,vb,cs,v,rfl,h1,_,_,_,_,_,_,_,rfl,rfl⟩:=nT hc;have k1:bI h.next h (h.kill b):=bI.kill (by rw[h1];simp);exact k1.trans (bI.push (h:=h.kill b) (by show h.next<=h.next;omega) _ _)
theorem yi(args:List Value)(h:af)(v:Value)(h':af)(hc:jH args h=some (v,h')):bI h.next h h':=by
 unfold jH at hc;split at hc
 ·split at hc
  ·rename_i a _ _ _ b _ _ _ _ _ _ _ _ _ _
   revert hc
   cases Nat.beq _ _ with
   |true=>intro hc;cases hc
   |false=>
    intro hc;simp only[cond_false,oi,pj]at hc;rw[hc.2];exact .refl _ _
  ·cases hc
 ·cases hc
theorem VG.Lm{G G':Nat->Option Loc}(hm:∀id L,G id=some L->G' id=some L){a:Addr}{len k:Nat}{c:Value}(hs:a.spot=none){L1:Loc}(h1:G a.block=some L1)(h:VG G' (.slice (some a) len k) c):VG G (.slice (some a) len k) c:=by
 have e:=hm _ _ h1;cases h with
 |flat _ h=>simp[bk]at h
 |gG _ L _ _ _ h hc=>
  rw[e]at h;obtain rfl:=Option.some.inj h;exact .gG _ _ _ _ hs h1 hc
 |gR _ L _ m c _ h hm Qf ht=>
  rw[e]at h;obtain rfl:=Option.some.inj h;exact .gR _ _ _ _ _ hs h1 hm Qf ht
 |ko _ a' x h=>rw[hs]at h;cases h
 |jC _ a' x c h=>rw[hs]at h;cases h
theorem HR.room{G:Nat->Option Loc}{h:af}{w:World}{b es:Nat}{cs:List Value}{L:Loc}(hR:HR ⟨G,fun _=>none⟩ (im h) w)(hb:G b=some L)(hm:h.m.get b=some (.live true es cs))(hk:L.o+cs.length+1<=L.zO) :
  HR ⟨G,fun _=>none⟩ (im { h with m:=h.m.set b (.live true es (cs++[.chan none])) }) w:=by
 have get:∀k,(h.m.set b (.live true es (cs++[.chan none]))).get k=if b=k then some (.live true es (cs++[.chan none]))else h.m.get k:=fun k=>by rw[cQ.bL]
 refine { cP:=hR.cP,dg:=hR.dg,cG:=?_,dh:=?_,eE:=hR.eE,dS:=hR.dS,eO:=hR.eO,sep:=hR.sep }
 ·intro k L1 dm h1 h2
  have I6:(h.m.set b (.live true es (cs++[.chan none]))).get k=some dm:=h2;rw[get]at I6;by_cases e:b=k
  ·subst e
   rw[if_pos rfl]at I6;obtain rfl:=Option.some.inj I6;have sI:G b=some L1:=h1;rw[hb]at sI;obtain rfl:=Option.some.inj sI;obtain⟨q1,cv,e,fr,q2,q3,q4⟩:=hR.cG b L _ hb hm;refine⟨q1,cv,e,fr,q2,?_,q4⟩;intro i v hi;by_cases c:i<cs.length
   ·rw[List.getElem?_append_left c]at hi
    exact q3 i v hi
   ·have DA:=(List.getElem?_eq_some_iff.1 hi).1
    rw[List.length_append,List.length_singleton]at DA;obtain rfl:i=cs.length:=om
    rw[List.getElem?_append_right (Nat.le_refl _)]at hi;simp at hi;subst hi;obtain⟨o,r1,r2⟩:=hR.dg b L hb;have:=r2 cv e fr (by rw[q2]at r1;exact(Option.some.inj r1).symm);exact⟨cv[L.o+cs.length]'om,Array.getElem?_eq_getElem _,.zf _⟩
  ·rw[if_neg e]at I6
   exact hR.cG k L1 dm h1 I6
 ·intro k k' L1 L2 b1 b2 h1 h2 h3 h4 a1 a2 he
  have alv:∀k b1,(h.m.set b (.live true es (cs++[.chan none]))).get k=some b1->b1.alive=true->∃b2,h.m.get k=some b2/\b2.alive=true:=fun k b1 q1 q2=>by
   rw[get]at q1;by_cases e:b=k
   ·subst e;exact⟨_,hm,rfl⟩
   ·rw[if_neg e]at q1;exact⟨_,q1,q2⟩
  obtain⟨c1,d1,d2⟩:=alv k b1 h3 a1;obtain⟨c2,d3,d4⟩:=alv k' b2 h4 a2;exact hR.dh k k' L1 L2 c1 c2 h1 h2 d1 d3 d2 d4 he
theorem Good.QA{G G':Nat->Option Loc}{h h2 h':af}{w w':World}{b b2:Nat}{L:Loc}{cells:List Value}(hR:HR ⟨G,fun _=>none⟩ (im h) w)(hb:b<h.next)(hG:Good ⟨G,fun _=>none⟩ (im h2) w ⟨G',fun _=>none⟩ (im h') w')
  (hL:G' b2=some L) (hc:h'.m.get b2=some (.live true 1 cells)) (KG:∀k L1 dm,k≠b->G k=some L1->h.m.get k=some dm->BR G dm L1 w'.heap[L1.b]?) (U6:∀k L1 dm,k≠b->G k=some L1->h.m.get k=some dm->dm.alive=true->L1.b≠L.b)
  (uJ:w.heap.size<=L.b\/G b=some L) (aq:Nat.min h.low b<=h'.low) (Xc:∀v∈cells,∃a len k L1,v=.slice (some a) len k/\a.spot=none/\G a.block=some L1) :
  ∃G2,G2 h.next=some L/\(∀id L,G id=some L->G2 id=some L)/\Good ⟨G,fun _=>none⟩ (im h) w ⟨G2,fun _=>none⟩ (im ((h.kill b).push 1 cells)) w'/\fD (h.next<=·) G G2:=by
 let G2:Nat->Option Loc:=fun k=>if k=h.next then some L else G k
 have split:∀k L1,G2 k=some L1->(k=h.next/\L1=L)\/(k≠h.next/\G k=some L1):=fun k L1 h1=>by
  by_cases e:k=h.next
  ·left;simp only[G2,e,if_true,oi]at h1;exact⟨e,h1.symm⟩
  ·right;simp only[G2,e,if_false]at h1;exact⟨e,h1⟩
 have up:∀k L1,G k=some L1->G2 k=some L1:=fun k L1 h1=>by
  have:k<h.next:=hR.cP k L1 h1;simp only[G2,show ¬k=h.next by omega,if_false,h1]
 have get:∀k,((h.kill b).push 1 cells).m.get k=if h.next=k then some (.live true 1 cells)else if b=k then some .dead else h.m.get k:=fun k=>by
  show((h.m.set b .dead).set h.next _).get k=_;rw[cQ.bL,cQ.bL]
 have DB:∀k dm,k≠h.next->((h.kill b).push 1 cells).m.get k=some dm->dm=.dead\/(k≠b/\h.m.get k=some dm):=fun k dm hk q=>by
  rw[get,if_neg (fun e=>hk e.symm)]at q;by_cases e:b=k
  ·rw[if_pos e]at q;exact .inl (Option.some.inj q).symm
  ·rw[if_neg e]at q;exact .inr ⟨fun e'=>e e'.symm,q⟩
 refine⟨G2,by simp[G2],up,?_,fun k L1 h1=>?_⟩
 ·refine { hr:=?_,mono:=up,next:=by show h.next<=h.next+1;omega,low:=Nat.min_le_left _ _,size:=hG.size,os:=hG.os,tape:=hG.tape,output:=hG.output,fresh:=?_,cH:=(fun t L h=>by cases h),frame:=fun k hk lP hl=>hG.frame k hk (fun id L1 h0 he=>Nat.lt_of_lt_of_le (lP id L1 h0 he) aq) hl }
  ·refine { cP:=?_,dg:=?_,cG:=?_,dh:=?_,eE:=(fun t L h=>by cases h),dS:=(fun t L h=>by cases h),eO:=(fun t t' L L' h=>by cases h),sep:=(fun id t L L' _ h=>by cases h) }
   ·intro k L1 h1
    show k<h.next+1;rcases split k L1 h1 with ⟨e,_⟩|⟨_,h2⟩
    ·omega
    ·have:k<h.next:=hR.cP k L1 h2;omega
   ·intro k L1 h1
    rcases split k L1 h1 with ⟨_,rfl⟩|⟨_,h2⟩
    ·exact hG.hr.dg b2 _ hL
    ·exact hG.hr.dg k L1 (hG.mono k L1 h2)
   ·intro k L1 b1 h1 h2
    rcases split k L1 h1 with ⟨rfl,rfl⟩|⟨hk,h3⟩
    ·have I6:((h.kill b).push 1 cells).m.get h.next=some b1:=h2
     rw[get,if_pos rfl]at I6;obtain rfl:=Option.some.inj I6;obtain⟨k1,cs,e,fr,k2,k3,k4⟩:=hG.hr.cG b2 _ _ hL hc;refine⟨k1,cs,e,fr,k2,fun i v hi=>?_,k4⟩;obtain⟨cv,q1,q2⟩:=k3 i v hi;obtain⟨a,len,kk,L1,rfl,g1,g2⟩:=Xc v (List.mem_of_getElem? hi);exact⟨cv,q1,(VG.Lm hG.mono g1 g2 q2).mono up⟩
    ·rcases DB k b1 hk h2 with rfl|⟨TA,q⟩
     ·trivial
     ·exact(KG k L1 b1 TA h3 q).mono up
   ·intro k k' L1 L2 b1 Ah h1 h2 h3 h4 a1 a2 he
    rcases split k L1 h1 with ⟨e1,rfl⟩|⟨e1,g1⟩<;>rcases split k' L2 h2 with ⟨e2,rfl⟩|⟨e2,g2⟩
    ·rw[e1,e2]
    ·rcases DB k' Ah e2 h4 with rfl|⟨TA,q⟩
     ·cases a2
     ·exact absurd he.symm (U6 k' L2 Ah TA g2 q a2)
    ·rcases DB k b1 e1 h3 with rfl|⟨TA,q⟩
     ·cases a1
     ·exact absurd he (U6 k L1 b1 TA g1 q a1)
    ·rcases DB k b1 e1 h3 with rfl|⟨TA,q⟩
     ·cases a1
     rcases DB k' Ah e2 h4 with rfl|⟨hkb2,q2⟩
     ·cases a2
     exact hR.dh k k' L1 L2 b1 Ah g1 g2 q q2 a1 a2 he
  ·intro k L1 h1 h2
   rcases split k L1 h1 with ⟨_,rfl⟩|⟨_,h3⟩
   ·rcases uJ with q|q
    ·exact .inl q
    ·exact .inr ⟨b,_,q,rfl,Nat.min_le_right _ _⟩
   ·have I6:G k=none:=h2
    rw[I6]at h3;cases h3
 ·rcases split k L1 h1 with ⟨e,_⟩|⟨_,h2⟩
  ·right;show h.next<=k;omega
  ·exact .inl h2
end Go.cS
namespace Go.cS
open Go.RowKit
theorem zC{P : Program}{g : FuncId}{fn : Func}{tS tR e : TypeId}(hf : P.funcs[g]? = some fn)(cE : (fn.name == "runtime.NumGoroutine") = false)(hb : fn.body.isNone = true)(hn : Extern.findNext fn = none)
  (he:Extern.find fn=some (Extern.SlicesOverlaps.overlaps #[tS,tS] #[tR])) (ht:P.underlying tS=some (.slice e)) (hz:∀w,(Go.sizeOf e).run P w=.ok 1 w) (args:List Value) (h:af) (v:Value) (h':af) (hc:jH args h=some (v,h'))
  (G:Nat->Option Loc) (w:World) (aU:List Value) (hR:HR ⟨G,fun _=>none⟩ (im h) w) (hA:fF G args aU):sH P g aU.toArray w (fun c w'=>∃G',VG G' v c/\Good ⟨G,fun _=>none⟩ (im h) w ⟨G',fun _=>none⟩ (im h') w'/\fD (h.next<=·) G G'):=by
 unfold jH at hc;split at hc
 ·rename_i a oa la ca b ob lb cb
  split at hc
  ·rename_i v1 r1 v2 r2 h1 h2
   revert hc
   cases QB:Nat.beq a b with
   |true=>intro hc;cases hc
   |false=>
    intro hc;simp only[cond_false,oi,pj]at hc;obtain⟨rfl,rfl⟩:=hc;obtain⟨x1,l1,rfl,g1,hA⟩:=hA.head;obtain⟨x2,l2,rfl,g2,hA⟩:=hA.head;obtain rfl:l2=[]:=List.eq_nil_of_length_eq_zero hA.1.symm;rcases g1.dQ with ⟨_,L1,c1,JX,rfl,_⟩|⟨_,⟨x,hx⟩,_⟩
    rotate_left
    ·cases hx
    rcases g2.dQ with ⟨_,L2,c2,GZ,rfl,_⟩|⟨_,⟨x,hx⟩,_⟩
    rotate_left
    ·cases hx
    obtain⟨_,uK,e1,f1,k1,k2,k3⟩:=hR.cG _ _ _ JX h1;obtain⟨_,cs2,e2,f2,q1,q2,q3⟩:=hR.cG _ _ _ GZ h2;obtain rfl:=k3 rfl;obtain rfl:=q3 rfl;have dX:L1.b≠L2.b:=fun q=>by
     have:=hR.dh a b L1 L2 _ _ JX GZ h1 h2 rfl rfl q;rw[this,Nat.beq_refl]at QB;cases QB
    obtain⟨cv,z1,_⟩:=q2 0 v2 rfl;have JV:cs2.size≠0:=by have:=(Array.getElem?_eq_some_iff.1 z1).1;omega
    refine .inr ⟨.bool false,w,?_,G,.of_flat rfl,.refl hR,.refl _ _⟩;show(callFunc g #[.slice (some ⟨L1.b,L1.o+oa,none⟩) la c1,.slice (some ⟨L2.b,L2.o+ob,none⟩) lb c2]).run P w=_;rw[run_callFunc_extern hf cE hb hn he,Lib.run_overlaps_apart w tS tR e ht 1 hz ⟨L1.b,L1.o+oa,none⟩ ⟨L2.b,L2.o+ob,none⟩ la c1 lb c2 dX e1 e2 uK.size cs2.size (by unfold World.shape?;simp only[k1]) (by unfold World.shape?;simp only[q1]) JV (by unfold World.frozen?;simp only[k1];simp) (by unfold World.frozen?;simp only[k1];simp)];rfl
  ·cases hc
 ·cases hc
end Go.cS
namespace Go.cS
open Go.RowKit
theorem pL{P:Program}{H:Hint}{call:cD}{f:FuncId}{nt:Nat}{ops:Array Oper}{o:Oper}{rest:List Oper}{s s':St}{v:Value}{d:Tmp}(hg:o.guard=none)(hd:o.dst=some d)(WX:d<nt)(h1:rE P H call f o s=some (v,s))(h:lj P H call f nt ops rest { s with env:=s.env.set d v }=some s') :
  lj P H call f nt ops (o :: rest) s=some s':=by
 have hw:jd ops o s=some true:=by unfold jd;rw[hg]
 have hbl:Nat.blt d nt=true:=bm WX;simp only[lj,hw,h1,hd,rD,hbl,cond_true];exact h
theorem qR.room{P:Unit->Program}{nt id:Nat}(TB:32<=nt){ti tj tk tl e:TypeId}{o1 o2 o3 o4 o5 o6:Oper}{ops:Array Oper}(zi:ops.toList=[o1,o2,o3,o4,o5,o6])
  (p1:o1.op=.move (.tmp 8)) (p2:o2.op=.move (.tmp 7)) (p3:o3.op=.binOp .add ti (.tmp 26) (.tmp 27) tj) (p4:o4.op=.move (.tmp 0)) (p5:o5.op=.call { callee:=.builtin .cap,args:=#[.tmp 29],argTypes:=#[tl] }) (p6:o6.op=.binOp .gtr ti (.tmp 28) (.tmp 30) tk)
  (d1:o1.dst=some 26) (d2:o2.dst=some 27) (d3:o3.dst=some 28) (d4:o4.dst=some 29) (d5:o5.dst=some 30) (d6:o6.dst=some 31) (g1:o1.guard=none) (g2:o2.guard=none) (g3:o3.guard=none) (g4:o4.guard=none) (g5:o5.guard=none) (g6:o6.guard=none)
  (ht:(P ()).underlying tl=some (.slice e)) {s:SS} {n b off k:Nat} (e8:lk s.env 8=some (.int .i64 n)) (e7:lk s.env 7=some (.int .i64 1)) (e0:lk s.env 0=some (.slice (some ⟨b,off,none⟩) n k)) (aq:∀p∈s.env,p.1<26) (hn:n<=1000) (hk:n+1<=cL k) {Q:Exit->SS->Prop}
  (h:Q .normal { s with env:=(31,.bool false) :: s.env }):qR P nt (.region id ops false) s Q:=by
 refine⟨?_⟩;intro t hs hl;have fy:gL (P ()) (fun _ _ _=>none):=⟨fun g args h v h' hc=>(by cases hc),fun g args h v h' hc=>(by cases hc)⟩;have t8:t.env.get 8=some (.int .i64 n):=hs.env _ _ e8;have t7:t.env.get 7=some (.int .i64 1):=hs.env _ _ e7;have t0:t.env.get 0=some (.slice (some ⟨b,off,none⟩) n k):=hs.env _ _ e0;have U7:∀{o:Oper} {s:St} {v:Value},dP o.op=none->gm (P ()) s.new (eV AJ 0 o) o.op s=some (v,s)->rE (P ()) AJ (fun _ _ _=>none) 0 o s=some (v,s):=fun h1 h2=>by unfold rE;rw[h1];exact h2
 have w1:IntKind.wrap .i64 ((n:Int)+1)=(n:Int)+1:=wrap64 om om;refine WN.cap (H:=AJ) (f:=0) fy (pre:=[o1,o2,o3,o4]) (rest:=[o6]) zi p5 d5 (Nat.lt_of_lt_of_le (by decide) TB) g5 ht (s1:={ t with env:=(((t.env.set 26 (.int .i64 n)).set 27 (.int .i64 1)).set 28 (.int .i64 ((n:Int)+1))).set 29 (.slice (some ⟨b,off,none⟩) n k) }) ?_ (b:=b) (off:=off) (n:=n) (k:=k) ?_ (fun c hc=>?_)
 ·refine pL g1 d1 (Nat.lt_of_lt_of_le (by decide) TB) (U7 (by rw[p1];rfl) (v:=.int .i64 n) (by rw[p1];simp only[gm,bH,t8])) ?_
  refine pL g2 d2 (Nat.lt_of_lt_of_le (by decide) TB) (U7 (by rw[p2];rfl) (v:=.int .i64 1) (by rw[p2];simp only[gm,bH,cQ.bL];simp[t7])) ?_;refine pL g3 d3 (Nat.lt_of_lt_of_le (by decide) TB) (U7 (by rw[p3];rfl) (v:=.int .i64 ((n:Int)+1)) (by rw[p3];simp only[gm,bH,cQ.bL];simp[wv,uH,w1])) ?_;refine pL g4 d4 (Nat.lt_of_lt_of_le (by decide) TB) (U7 (by rw[p4];rfl) (v:=.slice (some ⟨b,off,none⟩) n k) (by rw[p4];simp only[gm,bH,cQ.bL];simp[t0])) ?_;rfl
 ·simp only[bH,cQ.bL];simp
 ·have dR:(decide ((c:Int)<(n:Int)+1))=false:=by simp;omega
  refine⟨_,pL g6 d6 (Nat.lt_of_lt_of_le (by decide) TB) (U7 (by rw[p6];rfl) (v:=.bool false) (by rw[p6];simp only[gm,bH,cQ.bL];simp[wv,uH];omega)) rfl,{ s with env:=(31,.bool false) :: s.env },⟨fun i v hv=>?_,hs.K,hs.kn,hs.h⟩,hl,h⟩;show((((((t.env.set 26 _).set 27 _).set 28 _).set 29 _).set 30 _).set 31 _).get i=some v;simp only[kO]at hv;rw[cQ.bL];by_cases c1:31=i
  ·rw[if_pos c1]at hv ⊢;exact hv
  ·rw[if_neg c1]at hv ⊢
   have hi:i<26:=aq _ (FR hv);simp only[cQ.bL];rw[if_neg om,if_neg om,if_neg om,if_neg om,if_neg om];exact hs.env i v hv
end Go.cS
namespace Go.cS
open Go.RowKit
theorem VG.back{G G':Nat->Option Loc}(hm:∀id L,G id=some L->G' id=some L){v c0:Value}(h0:VG G v c0):∀c,VG G' v c->VG G v c:=by
 induction h0 with
 |flat v h=>intro c hc;rw[VG.yf hc h];exact .flat v h
 |zf _=>intro c _;exact .zf c
 |ptr a L hs h=>
  intro c hc;have e:=hm _ _ h;cases hc with
  |flat _ h'=>simp[bk]at h'
  |ptr _ L' _ h'=>rw[e]at h';obtain rfl:=Option.some.inj h';exact .ptr a L hs h
 |gG a L len k hs h tJ=>intro c hc;exact VG.Lm hm hs h hc
 |gR a L len m c' hs h _ _ _=>intro c hc;exact VG.Lm hm hs h hc
 |ko a a' x hs=>
  intro c hc;rcases hc.dQ with ⟨qO,_⟩|⟨_,⟨x2,h2⟩,a2,c2,rfl,q⟩
  ·rw[hs]at qO;cases qO
  ·rcases q with ⟨_,rfl⟩|q
   ·exact .ko a a2 x hs
   ·unfold aR at q;omega
 |jC a a' x c1 hs=>
  intro c hc;rcases hc.dQ with ⟨qO,_⟩|⟨_,⟨x2,h2⟩,a2,c2,rfl,q⟩
  ·rw[hs]at qO;cases qO
  ·exact .jC a a2 x c2 hs
 |wH id L h=>
  intro c hc;have e:=hm _ _ h;cases hc with
  |flat _ h'=>simp[bk]at h'
  |wH _ L' h'=>rw[e]at h';obtain rfl:=Option.some.inj h';exact .wH id L h
 |yield y L h=>
  intro c hc;have e:=hm _ _ h;cases hc with
  |flat _ h'=>simp[bk]at h'
  |yield _ L' h'=>rw[e]at h';obtain rfl:=Option.some.inj h';exact .yield y L h
 |func f x y x' y' hx hy h1 h2 XS XT=>
  intro c hc;cases hc with
  |flat _ h'=>simp[bk]at h'
  |func _ _ _ x2 y2 E0 TC k1 k2=>
   refine .func f x y x2 y2 E0 TC (fun i u v hu hv=>?_) (fun i u v hu hv=>?_)
   ·have:=(List.getElem?_eq_some_iff.1 hu).1
    exact XS i u _ hu (List.getElem?_eq_getElem om) v (k1 i u v hu hv)
   ·have:=(List.getElem?_eq_some_iff.1 hu).1
    exact XT i u _ hu (List.getElem?_eq_getElem om) v (k2 i u v hu hv)
 |agg x x' hx h1 ih=>
  intro c hc;cases hc with
  |flat _ h'=>simp[bk]at h'
  |agg _ x2 E0 k1=>
   refine .agg x x2 E0 (fun i u v hu hv=>?_);have:=(List.getElem?_eq_some_iff.1 hu).1;exact ih i u _ hu (List.getElem?_eq_getElem om) v (k1 i u v hu hv)
 |tuple x x' hx h1 ih=>
  intro c hc;cases hc with
  |flat _ h'=>simp[bk]at h'
  |tuple _ x2 E0 k1=>
   refine .tuple x x2 E0 (fun i u v hu hv=>?_);have:=(List.getElem?_eq_some_iff.1 hu).1;exact ih i u _ hu (List.getElem?_eq_getElem om) v (k1 i u v hu hv)
theorem BR.back{G G':Nat->Option Loc}(hm:∀id L,G id=some L->G' id=some L){b:Cq}{L:Loc}{o0 o:Option Obj}(h0:BR G b L o0)(h:BR G' b L o):BR G b L o:=by
 cases b with
 |dead=>trivial
 |live wr es cells=>
  obtain⟨_,JW,e0,f0,_,q3,_⟩:=h0;obtain⟨h1,cs,e,fr,h2,h3,h4⟩:=h;refine⟨h1,cs,e,fr,h2,fun i v hi=>?_,h4⟩;obtain⟨c0,_,k2⟩:=q3 i v hi;obtain⟨c,r1,r2⟩:=h3 i v hi;exact⟨c,r1,k2.back hm c r2⟩
 |map es=>
  obtain⟨ces0,_,_,q2⟩:=h0;obtain⟨l8,clock,h1,h2⟩:=h;refine⟨l8,clock,h1,h2.1,fun i e c he hc=>⟨(h2.2 i e c he hc).1,?_⟩⟩;have:=(List.getElem?_eq_some_iff.1 he).1;exact(q2.2 i e _ he (List.getElem?_eq_getElem (by rw[<-q2.1];exact this))).2.back hm _ (h2.2 i e c he hc).2
 |loop st ni f nt env ps assign body=>
  obtain⟨_,_,_,_,_,_,_,q4⟩:=h0;obtain⟨fn,tmps,params,D,h1,h2,h3,h4⟩:=h;refine⟨fn,tmps,params,D,h1,h2,h3,fun t v hv=>⟨(h4 t v hv).1,(q4 t v hv).2.back hm _ (h4 t v hv).2⟩⟩
