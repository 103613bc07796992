import Derived.Test.YtdpbiegfljmhmaaSymB
import Derived.Test.YtdpbiegfljmhmaaSimF
import Derived.Lib.Overlaps
set_option linter.unusedSimpArgs false
set_option linter.unusedVariables false
namespace Go.Sim
theorem br{c:Bool}{A B:Prop}(p:Prop)[Decidable p](hc:c=decide p)(h1:p->A)(h2:¬p->B):cond c A B:=by
 subst hc;by_cases h:p
 ·simp only[h,decide_true,cond_true];exact h1 h
 ·simp only[h,decide_false,cond_false];exact h2 h
structure Ext(h h':af):Prop where
 next:h.next<=h'.next
 low:h.low<=h.next->h'.low<=h'.next
 lowG:Nat.min h.low h.next<=h'.low
 get:∀b,b<h.next->h'.m.get b=h.m.get b
theorem Ext.refl(h:af):Ext h h:=⟨Nat.le_refl _,fun h=>h,Nat.min_le_left _ _,fun _ _=>rfl⟩
theorem Ext.trans{a b c:af}(h:Ext a b)(k:Ext b c):Ext a c:=
 ⟨Nat.le_trans h.next k.next,fun l=>k.low (h.low l),by
  have h1:=h.lowG;have h2:=k.lowG;have h3:=h.next;have:Nat.min a.low a.next<=a.next:=Nat.min_le_right _ _;have h4:Nat.min a.low a.next<=Nat.min b.low b.next:=Nat.le_min.2 ⟨h1,by omega⟩;omega,fun i hi=>(k.get i (Nat.lt_of_lt_of_le hi h.next)).trans (h.get i hi)⟩
theorem Ext.push(h:af)(es:Nat)(cs:List Value):Ext h (h.push es cs):=
 ⟨by simp[af.push],fun l=>by simp only[af.push];omega,by simp only[af.push];exact Nat.min_le_left _ _,fun b hb=>by simp only[af.push];rw[cg.get_set_ne _ _ (by omega)]⟩
theorem Ext.bump(h:af)(n:Nat):Ext h (h.bump n):=
 ⟨by simp[af.bump],fun l=>by simp only[af.bump];omega,by simp only[af.bump];exact Nat.min_le_left _ _,fun b hb=>rfl⟩
theorem Ext.write{h h1 h':af}(k:Ext h h1){b o:Nat}{vs:List Value}(hb:h.next<=b)(hw:h1.write b o vs=some h'):Ext h h':=by
 have kb:=bz.write (B:=0) hw;unfold af.write at hw;split at hw
 ·split at hw
  ·simp only[oi]at hw
   subst hw;refine⟨k.next,fun l=>?_,?_,fun i hi=>?_⟩
   ·have:=k.low l
    have h2:Nat.min h1.low b<=h1.low:=Nat.min_le_left _ _;show Nat.min h1.low b<=h1.next;omega
   ·have:=k.lowG
    show Nat.min h.low h.next<=Nat.min h1.low b;have h2:Nat.min h.low h.next<=h.next:=Nat.min_le_right _ _;exact Nat.le_min.2 ⟨this,by omega⟩
   ·show(h1.m.set b _).get i=_
    rw[cg.get_set_ne _ _ (by omega)];exact k.get i hi
  ·cases hw
 ·cases hw
theorem Ext.kill{h h1:af}(k:Ext h h1){b:Nat}(hb:h.next<=b):Ext h (h1.kill b):=by
 refine⟨k.next,fun l=>?_,?_,fun i hi=>?_⟩
 ·have:=k.low l
  have h2:Nat.min h1.low b<=h1.low:=Nat.min_le_left _ _;show Nat.min h1.low b<=h1.next;omega
 ·have:=k.lowG
  show Nat.min h.low h.next<=Nat.min h1.low b;have h2:Nat.min h.low h.next<=h.next:=Nat.min_le_right _ _;exact Nat.le_min.2 ⟨this,by omega⟩
 ·show(h1.m.set b _).get i=_
  rw[cg.get_set_ne _ _ (by omega)];exact k.get i hi
theorem Ext.cells{h h':af}(k:Ext h h'){b:Nat}(hb:b<h.next):h'.cells? b=h.cells? b:=by
 unfold af.cells?;rw[k.get b hb]
def cD(h:af)(a:Option Addr)(n es:Nat)(cells:List Value):Prop:=
 match a with
 |none=>n=0/\cells=[]
 |some ad=>ad.spot=none/\ad.block<h.next/\h.readG ad (n*es)=some cells
theorem cD.ext{h h':af}{a:Option Addr}{n es:Nat}{cells:List Value}(c:cD h a n es cells)(k:Ext h h'):cD h' a n es cells:=by
 cases a with
 |none=>exact c
 |some ad=>
  obtain⟨h1,h2,h3⟩:=c;refine⟨h1,Nat.lt_of_lt_of_le h2 k.next,?_⟩;unfold af.readG at h3 ⊢;rw[k.cells h2];exact h3
theorem cD.length{h:af}{a:Option Addr}{n es:Nat}{cells:List Value}(c:cD h a n es cells):cells.length=n*es:=by
 cases a with
 |none=>obtain⟨rfl,rfl⟩:=c;simp
 |some ad=>
  obtain⟨h1,h2,h3⟩:=c;unfold af.readG at h3;rw[h1]at h3;simp only[]at h3;split at h3
  ·exact(lU h3).1
  ·cases h3
theorem lG{cs:List Value}{off n:Nat}{l:List Value}(h:(cs.drop off).take n=l)(hl:l.length=n):iS cs off n=some l:=by
 unfold iS;simp only[h,hl];simp
theorem zi{cs:List Value}{off n:Nat}{l:List Value}(h:iS cs off n=some l):(cs.drop off).take n=l/\l.length=n:=by
 have h1:=(lU h).1;unfold iS at h;obtain⟨_,h2⟩:=jM h;exact⟨h2,h1⟩
theorem cD.at{h:af}{a:Option Addr}{n es:Nat}{cells:List Value}(c:cD h a n es cells){i m:Nat}(hi:i+m<=n*es)(hm:0<m):∃b o,a=some ⟨b,o,none⟩/\b<h.next/\h.readG ⟨b,o+i,none⟩ m=some ((cells.drop i).take m):=by
 have hlen:=c.length;cases a with
 |none=>obtain⟨rfl,rfl⟩:=c;simp at hi;omega
 |some ad=>
  obtain⟨h1,h2,h3⟩:=c;obtain⟨b,o,sp⟩:=ad;simp only at h1;subst h1;refine⟨b,o,rfl,h2,?_⟩;unfold af.readG at h3 ⊢;simp only[]at h3 ⊢;split at h3
  ·rename_i cs hcs
   obtain⟨e1,e2⟩:=zi h3;refine lG ?_ ?_
   ·subst e1
    rw[List.drop_take,List.take_take,List.drop_drop,Nat.min_eq_left (by omega)]
   ·simp only[List.length_take,List.length_drop];omega
  ·cases h3
theorem FY{α:Type}(l:List α)(i:Nat)(x:α)(h:l[i]?=some x):(l.drop i).take 1=[x]:=by
 obtain⟨hi,rfl⟩:=List.getElem?_eq_some_iff.1 h;rw[List.drop_eq_getElem_cons hi,List.take_succ_cons,List.take_zero]
def dL(l:List Int)(i:Int):Int:=l.getD i.toNat 0
theorem fX{x:Int}(h1:-9223372036854775808<=x)(h2:x<9223372036854775808):IntKind.wrap .i64 x=x:=by
 unfold IntKind.wrap;simp[IntKind.bits,IntKind.signed,IntKind.min,IntKind.max];omega
theorem K0{x:Int}(h1:0<=x)(h2:x<256):IntKind.wrap .u8 x=x:=by
 unfold IntKind.wrap;simp[IntKind.bits,IntKind.signed,IntKind.min,IntKind.max];omega
end Go.Sim
namespace Go.Sim
def bG(h:af)(b es:Nat)(cells:List Value):Prop:=h.m.get b=some (.live true es cells)
theorem bG.push(h:af)(es:Nat)(cs:List Value):bG (h.push es cs) h.next es cs:=by
 unfold bG af.push;simp only[];rw[cg.get_set_eq]
theorem bG.putAt(h:af)(id es:Nat)(cs:List Value):bG (h.putAt id es cs) id es cs:=by
 unfold bG af.putAt;simp only[];rw[cg.get_set_eq]
theorem bG.ext{h h':af}{b es:Nat}{cells:List Value}(c:bG h b es cells)(k:Ext h h')(hb:b<h.next):bG h' b es cells:=by
 unfold bG;rw[k.get b hb];exact c
theorem bG.readG{h:af}{b es:Nat}{cells:List Value}(c:bG h b es cells){o n:Nat}(hn:o+n<=cells.length):h.readG ⟨b,o,none⟩ n=some ((cells.drop o).take n):=by
 unfold af.readG af.cells?;simp only[];rw[show h.m.get b=some (.live true es cells)from c];exact lG rfl (by simp only[List.length_take,List.length_drop];omega)
structure gL(h h':af)(b:Nat):Prop where
 next:h'.next=h.next
 low:h'.low=Nat.min h.low b
 get:∀b',b'≠b->h'.m.get b'=h.m.get b'
theorem bG.write{h:af}{b es:Nat}{cells:List Value}(c:bG h b es cells){o:Nat}{vs:List Value}(hn:o+vs.length<=cells.length):∃h',h.write b o vs=some h'/\bG h' b es (cells.take o++(vs++cells.drop (o+vs.length)))/\gL h h' b:=by
 refine⟨{ next:=h.next,low:=Nat.min h.low b,m:=h.m.set b (.live true es (cells.take o++(vs++cells.drop (o+vs.length)))) },?_,?_,rfl,rfl,fun b' hb'=>?_⟩
 ·unfold af.write
  rw[show h.m.get b=some (.live true es cells)from c];simp only[kB];rw[aS hn];rfl
 ·unfold bG;simp only[];rw[cg.get_set_eq]
 ·simp only[];rw[cg.get_set_ne _ _ (fun e=>hb' e.symm)]
theorem gL.ext{h0 h h':af}{b:Nat}(k:gL h h' b)(e:Ext h0 h)(hb:h0.next<=b):Ext h0 h':=by
 refine⟨by rw[k.next];exact e.next,fun l=>?_,?_,fun i hi=>?_⟩
 ·have:=e.low l
  rw[k.low,k.next];have h2:Nat.min h.low b<=h.low:=Nat.min_le_left _ _;omega
 ·have:=e.lowG
  rw[k.low];have h2:Nat.min h0.low h0.next<=h0.next:=Nat.min_le_right _ _;exact Nat.le_min.2 ⟨this,by omega⟩
 ·rw[k.get i (by omega)];exact e.get i hi
theorem gL.own{h h':af}{b b' es:Nat}{cells:List Value}(k:gL h h' b)(c:bG h b' es cells)(hb:b'≠b):bG h' b' es cells:=by
 unfold bG;rw[k.get b' hb];exact c
theorem Ext.lowOK{h h':af}(e:Ext h h')(hl:h.low<=h.next):h'.low<=h'.next:=e.low hl
theorem Ext.freshed(h:af):Ext h h.freshed:=⟨Nat.le_refl _,fun _=>Nat.le_refl _,Nat.min_le_right _ _,fun _ _=>rfl⟩
theorem zt(h:af):h.freshed.low<=h.freshed.next:=Nat.le_refl _
theorem sq{h:af}(hl:h.low<=h.next):h.freshed.lowered h.low=h:=by
 unfold af.lowered af.freshed;have:Nat.min h.low h.next=h.low:=Nat.min_eq_left hl;simp only[this]
theorem oJ(h:af):Nat.blt h.freshed.low h.next=false:=bT (Nat.le_refl _)
theorem vP{α:Type}(l:List α)(i:Nat)(x:α)(hi:i<l.length):l.take i++([x]++l.drop (i+1))=l.set i x:=by
 rw[List.set_eq_take_append_cons_drop,if_pos hi];simp
theorem bG.setInt{h:af}{b es:Nat}{k:IntKind}{l:List Int}(c:bG h b es (l.map (.int k))){i:Nat}(hi:i<l.length)(x:Int):∃h',h.write b i [.int k x]=some h'/\bG h' b es ((l.set i x).map (.int k))/\gL h h' b:=by
 obtain⟨h',h1,h2,h3⟩:=c.write (o:=i) (vs:=[.int k x]) (by simp;omega);refine⟨h',h1,?_,h3⟩;rw[List.map_set,<-vP _ _ _ (by simpa using hi)];exact h2
theorem bG.getInt{h:af}{b es:Nat}{k:IntKind}{l:List Int}(c:bG h b es (l.map (.int k))){i:Nat}(hi:i<l.length):h.readG ⟨b,i,none⟩ 1=some [.int k (l.getD i 0)]:=by
 rw[c.readG (by simp;omega),FY _ i (.int k (l.getD i 0)) (by simp[hi])]
def jw(h:af)(es:Nat)(a:Option Addr)(n c:Nat)(cells:List Value):Prop:=
 (a=none/\n=0/\c=0/\cells=[])\/(∃b,a=some ⟨b,0,none⟩/\c=ar es n/\b<h.next/\cells.length=n*es/\bG h b es cells)
theorem jw.nil(h:af)(es:Nat):jw h es none 0 0 []:=.inl ⟨rfl,rfl,rfl,rfl⟩
theorem jw.cells{h:af}{es:Nat}{a:Option Addr}{n c:Nat}{cells:List Value}(p:jw h es a n c cells):cD h a n es cells:=by
 rcases p with ⟨rfl,rfl,rfl,rfl⟩|⟨b,rfl,rfl,hb,hl,ho⟩
 ·exact⟨rfl,rfl⟩
 ·exact⟨rfl,hb,by rw[ho.readG (by omega)];simp[<-hl]⟩
theorem jw.ext{h h':af}{es:Nat}{a:Option Addr}{n c:Nat}{cells:List Value}(p:jw h es a n c cells)(k:Ext h h'):jw h' es a n c cells:=by
 rcases p with ⟨rfl,rfl,rfl,rfl⟩|⟨b,rfl,rfl,hb,hl,ho⟩
 ·exact .nil _ _
 ·exact .inr ⟨b,rfl,rfl,Nat.lt_of_lt_of_le hb k.next,hl,ho.ext k hb⟩
def gf(m:Nat)(a:Option Addr):Prop:=∀ad,a=some ad->m<=ad.block
theorem gf.none(m:Nat):gf m none:=fun _ h=>by cases h
structure dB(P:Program)(t e es:Nat):Prop where
 und:P.underlying t=some (.slice e)
 size:bI P e=some es
 bytes:∃by_,m7 P e=some by_/\by_<=16384
 zero:∃z,fS P e=some z/\z.cells.toList.length=es
theorem wG{P:Program}{t t2 e es:Nat}(hT:dB P t e es)(ht2:P.underlying t2=some (.slice e)){h:af}{a a2:Option Addr}{n c n2 c2:Nat}{cells news:List Value}(hp:jw h es a n c cells)(hs:cD h a2 n2 es news)(hok:cells.all aA=true)(hok2:news.all aA=true)(hn2:0<n2)(hbig:n+n2<=1000000) :
  ∃a' c' h',bO P h [t,t2] [.slice a n c,.slice a2 n2 c2]=some (.slice a' (n+n2) c',h')/\jw h' es a' (n+n2) c' (cells++news)/\(∀h0,Ext h0 h->gf h0.next a->Ext h0 h'/\gf h0.next a'):=by
 obtain⟨by_,hby,hby2⟩:=hT.bytes;obtain⟨z,hz,hz2⟩:=hT.zero;have hnl:=hs.length;have hnews:gI P h e es false (.slice a2 n2 c2)=some (n2,news):=by
  unfold gI;simp only[cond_false];cases a2 with
  |none=>obtain⟨rfl,rfl⟩:=hs;omega
  |some ad=>
   obtain⟨h1,h2,h3⟩:=hs;simp only[h3]
 unfold bO;simp only[hT.und,hT.size,hby,ht2,hz,ct,hnews];rcases hp with ⟨rfl,rfl,rfl,rfl⟩|⟨b,rfl,rfl,hb,hl,ho⟩
 ·have e1:bW 0=0:=rfl
  rw[e1,dl (by omega)];simp only[cond_false];rw[aS (show 0+n2<=1073741824 by omega),aS hby2,hok2,hz2,hnl];simp only[Bool.and_self,Nat.beq_refl,cond_true];refine⟨_,_,_,rfl,.inr ⟨h.next,rfl,rfl,by simp[af.push],by simp[hnl],?_⟩,fun h0 e0 f0=>⟨e0.trans (.push _ _ _),?_⟩⟩
  ·rw[List.nil_append];exact bG.push _ _ _
  ·intro ad had
   cases had;exact e0.next
 ·have e1:bW (ar es n)=n:=bM (by unfold aI;omega)
  rw[e1,dl (by omega)];simp only[cond_false];rw[aS (show n+n2<=1073741824 by omega),aS hby2,hok2,hz2,hnl];simp only[Bool.and_self,Nat.beq_refl,cond_true];have hr:h.readG ⟨b,0,none⟩ (n*es)=some cells:=by rw[ho.readG (by omega)];simp[<-hl]
  simp only[hr];rw[bT (cS es n),hok];simp only[cond_false,cond_true];rw[show h.m.get b=some (.live true es cells)from ho];simp only[Nat.beq_refl,cond_true];refine⟨_,_,_,rfl,.inr ⟨h.next,rfl,rfl,by simp[af.push,af.kill],by simp[hnl,hl,Nat.add_mul],?_⟩,fun h0 e0 f0=>⟨?_,?_⟩⟩
  ·exact bG.push (h.kill b) es _
  ·exact(e0.kill (f0 _ rfl)).trans (.push _ _ _)
  ·intro ad had
   cases had;exact e0.next
theorem J5(l:List Int){i:Int}(h0:0<=i)(h1:i<l.length):l.take (i+1).toNat=l.take i.toNat++[dL l i]:=by
 have e:(i+1).toNat=i.toNat+1:=by omega
 have hi:i.toNat<l.length:=by omega
 rw[e,List.take_add_one,List.getElem?_eq_getElem hi];unfold dL;simp[hi]
theorem C7(l:List Int){i j:Int}(hi:0<=i)(hj:0<=j)(hl:i<l.length)(x:Int):dL (l.set i.toNat x) j=if j=i then x else dL l j:=by
 unfold dL;by_cases e:j=i
 ·subst e;rw[if_pos rfl];simp[show j.toNat<l.length by omega]
 ·rw[if_neg e]
  have:i.toNat≠j.toNat:=by omega
  simp[List.getD_eq_getElem?_getD,List.getElem?_set_ne this]
theorem DK{l m:List Int}(hl:l.length=m.length)(h:∀i:Int,0<=i->i<l.length->dL l i=dL m i):l=m:=by
 apply List.ext_getElem hl;intro i h1 h2;have:=h i (by omega) (by omega);unfold dL at this;simpa[h1,h2]using this
end Go.Sim
namespace Go.Sim
theorem nl{P:Program}{t t2 e es:Nat}(hT:dB P t e es)(ht2:P.underlying t2=some (.slice e)){h:af}{a a2:Option Addr}{n c n2 c2:Nat}{cells news:List Value}(hp:jw h es a n c cells)(hs:cD h a2 n2 es news)(hok:cells.all aA=true)(hok2:news.all aA=true)(hn2:0<n2)(hbig:n+n2<=1000000) :
  ∃a' c' h',bO P h [t,t2] [.slice a n c,.slice a2 n2 c2]=some (.slice a' (n+n2) c',h')/\jw h' es a' (n+n2) c' (cells++news)/\(∀h0,Ext h0 h->gf h0.next a->Ext h0 h'/\gf h0.next a')/\h.next<=h'.next/\gf h.next a'/\∀i,i<h.next->(∀ad,a=some ad->ad.block≠i)->h'.m.get i=h.m.get i:=by
 obtain⟨by_,hby,hby2⟩:=hT.bytes;obtain⟨z,hz,hz2⟩:=hT.zero;have hnl:=hs.length;have hnews:gI P h e es false (.slice a2 n2 c2)=some (n2,news):=by
  unfold gI;simp only[cond_false];cases a2 with
  |none=>obtain⟨rfl,rfl⟩:=hs;omega
  |some ad=>
   obtain⟨h1,h2,h3⟩:=hs;simp only[h3]
 unfold bO;simp only[hT.und,hT.size,hby,ht2,hz,ct,hnews];rcases hp with ⟨rfl,rfl,rfl,rfl⟩|⟨b,rfl,rfl,hb,hl,ho⟩
 ·have e1:bW 0=0:=rfl
  rw[e1,dl (by omega)];simp only[cond_false];rw[aS (show 0+n2<=1073741824 by omega),aS hby2,hok2,hz2,hnl];simp only[Bool.and_self,Nat.beq_refl,cond_true];refine⟨_,_,_,rfl,.inr ⟨h.next,rfl,rfl,by simp[af.push],by simp[hnl],?_⟩,fun h0 e0 f0=>⟨e0.trans (.push _ _ _),?_⟩,?_,?_,?_⟩
  ·rw[List.nil_append];exact bG.push _ _ _
  ·intro ad had
   cases had;exact e0.next
  ·exact Nat.le_succ _
  ·intro ad had
   cases had;exact Nat.le_refl _
  ·intro i hi _
   show(h.m.set h.next _).get i=_;rw[cg.get_set_ne _ _ (by omega)]
 ·have e1:bW (ar es n)=n:=bM (by unfold aI;omega)
  rw[e1,dl (by omega)];simp only[cond_false];rw[aS (show n+n2<=1073741824 by omega),aS hby2,hok2,hz2,hnl];simp only[Bool.and_self,Nat.beq_refl,cond_true];have hr:h.readG ⟨b,0,none⟩ (n*es)=some cells:=by rw[ho.readG (by omega)];simp[<-hl]
  simp only[hr];rw[bT (cS es n),hok];simp only[cond_false,cond_true];rw[show h.m.get b=some (.live true es cells)from ho];simp only[Nat.beq_refl,cond_true];refine⟨_,_,_,rfl,.inr ⟨h.next,rfl,rfl,by simp[af.push,af.kill],by simp[hnl,hl,Nat.add_mul],?_⟩,fun h0 e0 f0=>⟨?_,?_⟩,?_,?_,?_⟩
  ·exact bG.push (h.kill b) es _
  ·exact(e0.kill (f0 _ rfl)).trans (.push _ _ _)
  ·intro ad had
   cases had;exact e0.next
  ·exact Nat.le_succ _
  ·intro ad had
   cases had;exact Nat.le_refl _
  ·intro i hi hne
   show((h.m.set b _).set h.next _).get i=_;rw[cg.get_set_ne _ _ (by omega),cg.get_set_ne _ _ (hne _ rfl)]
theorem bG.of_get{h h':af}{b es:Nat}{cells:List Value}(c:bG h b es cells)(e:h'.m.get b=h.m.get b):bG h' b es cells:=by
 unfold bG at c ⊢;rw[e];exact c
theorem jw.of_get{h h':af}{es:Nat}{a:Option Addr}{n c:Nat}{cells:List Value}(p:jw h es a n c cells)(hn:h.next<=h'.next)(e:∀ad,a=some ad->ad.block<h.next->h'.m.get ad.block=h.m.get ad.block):jw h' es a n c cells:=by
 rcases p with ⟨rfl,rfl,rfl,rfl⟩|⟨b,rfl,rfl,hb,hl,ho⟩
 ·exact .nil _ _
 ·exact .inr ⟨b,rfl,rfl,Nat.lt_of_lt_of_le hb hn,hl,ho.of_get (e _ rfl hb)⟩
theorem jw.lt{h:af}{es:Nat}{a:Option Addr}{n c:Nat}{cells:List Value}(p:jw h es a n c cells):∀ad,a=some ad->ad.block<h.next:=by
 rcases p with ⟨rfl,rfl,rfl,rfl⟩|⟨b,rfl,rfl,hb,hl,ho⟩
 ·intro ad h;cases h
 ·intro ad h;cases h;exact hb
end Go.Sim
namespace Go.Sim
def BU(h:af)(es b n c:Nat)(cells:List Value):Prop:=bG h b es cells/\b<h.next/\cells.length=n*es/\((c=0/\n=0)\/c=ar es n)
theorem BE{P:Program}{t t2 e es:Nat}(hT:dB P t e es)(ht2:P.underlying t2=some (.slice e)){h:af}{b n c n2 c2:Nat}{a2:Option Addr}{cells news:List Value}(hp:BU h es b n c cells)(hs:cD h a2 n2 es news)(hok:cells.all aA=true)(hok2:news.all aA=true)(hbig:n+n2<=1000000) :
  ∃b' c' h',bO P h [t,t2] [.slice (some ⟨b,0,none⟩) n c,.slice a2 n2 c2]=some (.slice (some ⟨b',0,none⟩) (n+n2) c',h')/\BU h' es b' (n+n2) c' (cells++news)/\(∀h0,Ext h0 h->h0.next<=b->Ext h0 h'/\h0.next<=b'):=by
 obtain⟨ho,hb,hl,hc⟩:=hp;obtain⟨by_,hby,hby2⟩:=hT.bytes;obtain⟨z,hz,hz2⟩:=hT.zero;have hnl:=hs.length;have hnews:gI P h e es false (.slice a2 n2 c2)=some (n2,news):=by
  unfold gI;simp only[cond_false];cases a2 with
  |none=>obtain⟨rfl,rfl⟩:=hs;simp
  |some ad=>
   obtain⟨h1,h2,h3⟩:=hs;simp only[h3]
 have hcl:bW c=n:=by
  rcases hc with ⟨rfl,rfl⟩|rfl
  ·rfl
  ·exact bM (by unfold aI;omega)
 unfold bO;simp only[hT.und,hT.size,hby,ht2,hz,ct,hnews];rw[hcl];by_cases h0:n2=0
 ·subst h0
  have:news=[]:=by simpa using hnl
  subst this;obtain⟨h',hw,ho',hw2⟩:=ho.write (o:=n*es) (vs:=[]) (by simp;omega);have hwg:h.writeG (dP ⟨b,0,none⟩ (n*es)) []=some h':=by
   unfold af.writeG dP;simp only[List.all_nil,cond_true,Nat.zero_add];exact hw
  rw[aS (show n+0<=n by omega)];simp only[cond_true,hwg];have e2:cells.take (n*es)++([]++cells.drop (n*es+([]:List Value).length))=cells:=by simp
  rw[e2]at ho';exact⟨b,c,h',rfl,⟨by simpa using ho',by rw[hw2.next];exact hb,by simpa using hl,hc⟩,fun h0 e0 hb0=>⟨hw2.ext e0 hb0,hb0⟩⟩
 ·rw[dl (by omega)]
  simp only[cond_false];rw[aS (show n+n2<=1073741824 by omega),aS hby2,hok2,hz2,hnl];simp only[Bool.and_self,Nat.beq_refl,cond_true];have hr:h.readG ⟨b,0,none⟩ (n*es)=some cells:=by rw[ho.readG (by omega)];simp[<-hl]
  simp only[hr];rcases hc with ⟨rfl,rfl⟩|rfl
  ·rw[da (show 0<aI by unfold aI;omega),hok]
   simp only[cond_true];refine⟨_,_,_,rfl,⟨bG.push _ _ _,by simp[af.push],by simp[hl,hnl],.inr rfl⟩,fun h0 e0 hb0=>⟨e0.trans (.push _ _ _),e0.next⟩⟩
  ·rw[bT (cS es n),hok]
   simp only[cond_false,cond_true];rw[show h.m.get b=some (.live true es cells)from ho];simp only[Nat.beq_refl,cond_true];refine⟨_,_,_,rfl,⟨bG.push (h.kill b) es _,by simp[af.push,af.kill],by simp[hl,hnl,Nat.add_mul],.inr rfl⟩,fun h0 e0 hb0=>⟨(e0.kill hb0).trans (.push _ _ _),?_⟩⟩;exact e0.next
end Go.Sim
namespace Go.Sim
open Go.RowKit
variable{P:Program}
def WN(P:Program)(nt:Nat)(c:Code)(s:St)(Q:Exit->St->Prop):Prop:=
 ∀(J:dm) (w:World) (a:Act),HR J s w->ER J s a->nt<=a.tmps.size->c.wpIn (Wd none) 0 P (fun e a' w'=>∃s',Q e s'/\jg J s w a s' a' w') a w
theorem WN.mono{nt:Nat}{c:Code}{s:St}{Q Q':Exit->St->Prop}(h:WN P nt c s Q)(hq:∀e s',Q e s'->Q' e s'):WN P nt c s Q':=
 fun J w a hR hE hn=>wpIn_mono (h J w a hR hE hn) (fun e a' w' ⟨s',q,p⟩=>⟨s',hq e s' q,p⟩)
theorem WN.det{run:FuncId->Nat->Code->St->Option (Exit×St)}(hr:tW P run){f:FuncId}{nt:Nat}{c:Code}{s s':St}{x:Exit}{Q:Exit->St->Prop}(h:run f nt c s=some (x,s'))(hq:Q x s'):WN P nt c s Q:=
 fun J w a hR hE hn=>wpIn_mono (hr f nt c s x s' h none (.inl rfl) J w a hR hE hn) (fun e a' w' ⟨he,p⟩=>⟨s',by rw[he];exact hq,p⟩)
theorem WN.seq{nt:Nat}{c d:Code}{s:St}{Q:Exit->St->Prop}(h:WN P nt c s (fun e s1=>match e with | .normal=>WN P nt d s1 Q|e=>Q e s1)):WN P nt (.seq c d) s Q:=by
 intro J w a hR hE hn;refine wpIn_seq (wpIn_mono (h J w a hR hE hn) ?_);rintro e a1 w1 ⟨s1,q,J1,q1,q2,q3,q4,q5⟩;cases e with
 |normal=>
  show d.wpIn (Wd none) 0 P _ a1 w1;refine wpIn_mono (q J1 w1 a1 q1.hr q2 (by rw[q3];exact hn)) ?_;rintro e a2 w2 ⟨s2,r,p⟩;exact⟨s2,r,jg.trans q1 q3 q4 q5 p⟩
 |_=>exact pt (by simp) ⟨s1,q,J1,q1,q2,q3,q4,q5⟩
theorem WN.does{g : FuncId}{fn : Func}{c : Code}(hfn : P.funcs[g]? = some fn)(hb : fn.body = some c)(hname : (fn.name == "runtime.NumGoroutine") = false){args : List Value}{h : af}{R : Value → af → Prop}
  (hw:WN P fn.ntmps c { env:=dN args 0 .leaf,kn:=0,K:=.leaf,h:=h } (fun e s'=>(e=.normal\/e=.ret)/\∃v h',sj P fn s'=some (v,h')/\R v h'))
  {G:Nat->Option cN} {w:World} {cargs:List Value} (hR:HR ⟨G,fun _=>none⟩ (fV h) w) (hA:dK G args cargs) :
  pF P g cargs.toArray w (fun c w'=>∃v h' G',R v h'/\VG G' v c/\aQ ⟨G,fun _=>none⟩ (fV h) w ⟨G',fun _=>none⟩ (fV h') w'/\dI (h.next<=·) G G'):=by
 left;refine⟨fE hfn (by rw[hb];rfl) hname,(callsIn_wide (n:=0)).1 (callsIn_of_wp_marks hfn hb trivial ?_)⟩;have hR':HR ⟨G,fun _=>none⟩ { env:=dN args 0 .leaf,kn:=0,K:=.leaf,h:=h } w:=hR.env _;have hE':ER ⟨G,fun _=>none⟩ { env:=dN args 0 .leaf,kn:=0,K:=.leaf,h:=h } { tmps:=cargs.toArray++Array.replicate (fn.ntmps-cargs.toArray.size) undef,defers:=[] }:=by
  intro t u hu;simp only[mR,Nat.zero_le,true_and,Nat.zero_add,Nat.sub_zero]at hu;by_cases ht:t<args.length
  ·rw[if_pos ht]at hu
   have ht':t<cargs.length:=by rw[<-hA.1];exact ht
   refine⟨by simp;omega,?_⟩;have:(cargs.toArray++Array.replicate (fn.ntmps-cargs.toArray.size) undef).getD t undef=cargs[t]:=by
    simp[Array.getD,ht',Array.getElem_append,show t<cargs.length+(fn.ntmps-cargs.length) by omega]
   rw[this];exact .glob _ _ (hA.2 t u _ hu (by simp[ht']))
  ·rw[if_neg ht]at hu;simp[cg.get]at hu
 have hrun':=hw _ w _ hR' hE' (by simp;omega);refine wpIn_mono (F:=Fence.wide) hrun' ?_;rintro e a' w' ⟨s',⟨hx,v,h',hend,hRv⟩,J',q1,q2,q3,⟨Ds,q4,q6,q7⟩,q5⟩;simp only[List.append_nil]at q4;unfold sj at hend;split at hend
 ·rename_i l hl
  cases hn:l.all cP with
  |false=>rw[hn]at hend;simp at hend
  |true=>
   rw[hn]at hend;simp only[cond_true,oi,pj]at hend;obtain⟨rfl,rfl⟩:=hend;have hpost:LeavesInM Fence.wide 0 P fn a'.tmps (fun e w'=>∃c,e=.returned c/\∃v h' G',R v h'/\VG G' v c/\aQ ⟨G,fun _=>none⟩ (fV h) w ⟨G',fun _=>none⟩ (fV h') w'/\dI (h.next<=·) G G') a'.defers .returning w':=by
    rw[q4];refine mq (fun w''=>aQ ⟨G,fun _=>none⟩ { env:=dN args 0 .leaf,kn:=0,K:=.leaf,h:=h } w J' s' w'') (fun w'' hG=>?_) Ds w' q6 (fun D hD=>(q7 D hD).2.1) q1 (fun w'' D hG hD=>hG.putD (q7 D hD).1 (q7 D hD).2.2.1 (q7 D hD).2.2.2 _);obtain⟨cv,r1,r2⟩:=rN hG.hr q2 hl hn;exact⟨cv,r1,cv,rfl,_,_,J'.g,hRv,r2,hG.bare,q5⟩
   rcases hx with rfl|rfl<;>exact hpost
 ·cases hend
structure oB(P:Unit->Program)(nt:Nat)(c:Code)(s:SS)(Q:Exit->SS->Prop):Prop where
 go:∀t,Le s t->t.h.low<=t.h.next->WN (P ()) nt c t (fun e t'=>∃s',Le s' t'/\t'.h.low<=t'.h.next/\Q e s')
variable{P:Unit->Program}
theorem oB.run{H : bg}{F : aM}{A : bj}(hA : EF P H F A)(V : kR)(hm : (P ()).follows .mixedOrders = true)(hF : cU (P ()) F)(hname : ∀ (g : FuncId) (fn : Func), (P ()).funcs[g]? = some fn → (fn.name == "runtime.NumGoroutine") = false)
  {f:FuncId} {fn:Func} {c0:Code} (hfn:(P ()).funcs[f]?=some fn) (hc0:fn.body=some c0) {c:Code} (hl:be c=[]) (hr:bk c=[]) {s:SS} {Q:Exit->SS->Prop} (h:wM P H A V f fn.ntmps c s Q):oB P fn.ntmps c s Q:=by
 refine⟨?_⟩;intro t hs hlow;have e:=hA.eq;subst e;obtain⟨x,t',s',⟨n,hrun⟩,hs',hq⟩:=B4 hA.keep hfn hc0 c s t Q ⟨(fun b hb=>by rw[hl]at hb;simp at hb),(fun b hb=>by rw[hr]at hb;simp at hb)⟩ hs hlow h;have hk:=(fK hA.keep n).1 _ _ _ _ _ _ hrun;exact WN.det (pW hm hF hA.keep hname n).1 hrun ⟨s',hs',by have h1:=hk.next;have h2:=hk.low;omega,hq⟩
theorem oB.seq{nt:Nat}{c d:Code}{s:SS}{Q:Exit->SS->Prop}(h:oB P nt c s (fun e s1=>match e with | .normal=>oB P nt d s1 Q|e=>Q e s1)):oB P nt (.seq c d) s Q:=by
 refine⟨?_⟩;intro t hs hlow;refine WN.seq ((h.go t hs hlow).mono ?_);rintro e t1 ⟨s1,q1,q2,q3⟩;cases e with
 |normal=>exact q3.go t1 q1 q2
 |_=>exact⟨s1,q1,q2,q3⟩
theorem oB.less{nt:Nat}{c:Code}{s s0:SS}{Q:Exit->SS->Prop}(he:∀i v,lk s0.env i=some v->lk s.env i=some v)(hK:∀i v,lk s0.K i=some v->lk s.K i=some v)(hk:s0.kn=s.kn)(hh:s0.h=s.h)(h:oB P nt c s0 Q):oB P nt c s Q:=
 ⟨fun t hs hlow=>h.go t ⟨fun i v hi=>hs.env i v (he i v hi),fun i v hi=>hs.K i v (hK i v hi),by rw[hk];exact hs.kn,by rw[hh];exact hs.h⟩ hlow⟩
theorem Bz{α:Type}:∀{l:List (Nat×α)} {i:Nat} {v:α},lk l i=some v->(i,v)∈l
 | [],i,v,h=>by simp[lk]at h
 |p :: l,i,v,h=>by
  rw[jm]at h;by_cases e:p.1=i
  ·rw[if_pos e]at h
   obtain rfl:=Option.some.inj h;subst e;exact List.mem_cons_self
  ·rw[if_neg e]at h
   exact List.mem_cons_of_mem _ (Bz h)
theorem oB.lessE{nt:Nat}{c:Code}{env env0:List (Nat×Value)}{kn:Nat}{K:List (Nat×List Value)}{h:af}{Q:Exit->SS->Prop}(he:∀p∈env0,lk env p.1=some p.2)(hw:oB P nt c ⟨env0,kn,K,h⟩ Q):oB P nt c ⟨env,kn,K,h⟩ Q:=
 oB.less (s0:=⟨env0,kn,K,h⟩) (fun i v hi=>he _ (Bz hi)) (fun i v hi=>hi) rfl rfl hw
theorem oB.does{g : FuncId}{fn : Func}{c : Code}(hfn : (P ()).funcs[g]? = some fn)(hb : fn.body = some c)(hname : (fn.name == "runtime.NumGoroutine") = false){args : List Value}{h : af}{i : Tmp}(hres : fn.results.toList = [.tmp i]){R : Value → af → Prop}(hl : h.low ≤ h.next)
  (hw:oB P fn.ntmps c ⟨oM args 0 [],0,[],h⟩ (fun e s'=>(e=.normal\/e=.ret)/\∃v,lk s'.env i=some v/\cP v=true/\R v s'.h))
  {G:Nat->Option cN} {w:World} {cargs:List Value} (hR:HR ⟨G,fun _=>none⟩ (fV h) w) (hA:dK G args cargs) :
  pF (P ()) g cargs.toArray w (fun c w'=>∃v h' G',R v h'/\VG G' v c/\aQ ⟨G,fun _=>none⟩ (fV h) w ⟨G',fun _=>none⟩ (fV h') w'/\dI (h.next<=·) G G'):=by
 refine WN.does hfn hb hname ?_ hR hA;have e:=xJ args 0 [];simp only[E]at e;rw[e];refine(hw.go _ (Cp ⟨oM args 0 [],0,[],h⟩) hl).mono ?_;rintro x t' ⟨s',q1,q2,hx,v,q3,q4,q5⟩;refine⟨hx,v,s'.h,?_,q5⟩;unfold sj;rw[hres];simp only[si,q1.env _ _ q3];simp only[List.all_cons,q4,List.all_nil,Bool.and_true,cond_true,ip,q1.h]
end Go.Sim
namespace Go.Sim
open Go.RowKit
variable{P:Program}
theorem s8{ro:Option Nat}{H:bg}{call:bS}(hcall:fz P call){f:FuncId}{nt:Nat}{ops:Array Oper}{Q:Exit->Act->World->Prop}(more:Nat):∀(l:List Oper) (k:Nat) (s:St) (J:dm) (w:World) (a:Act) (s':St),
  (∀j,j<l.length->l[j]?=ops[k+j]?)->jz P H call f nt ops l s=some s'->HR J s w->ER J s a->nt<=a.tmps.size->(∀a' w',Bj J s w a s' a' w'->wpOpsIn (Wd ro) 0 P ops Q (List.range' (k+l.length) more) a' w')->wpOpsIn (Wd ro) 0 P ops Q (List.range' k (l.length+more)) a w
 | [],k,s,J,w,a,s',_,h,hR,hE,_,hQ=>by
  simp only[jz,oi]at h;subst h;have:=hQ a w ⟨J,.refl hR,hE,rfl,rfl,.refl _ _⟩;simpa using this
 |o :: l,k,s,J,w,a,s',hl,h,hR,hE,hn,hQ=>by
  have ho:ops[k]?=some o:=by have:=hl 0 (by simp);simpa using this.symm
  have hl':∀j,j<l.length->l[j]?=ops[k+1+j]?:=fun j hj=>by have:=hl (j+1) (by simpa using hj);simpa[Nat.add_assoc,Nat.add_comm 1 j]using this
  rw[List.length_cons,show l.length+1+more=(l.length+more)+1 by omega,List.range'_succ];simp only[wpOpsIn,ho];simp only[jz]at h;split at h
  ·rename_i hw
   rw[gJ hw (hE.gu ops o),if_pos rfl];split at h
   ·rename_i v s1 h1
    split at h
    ·rename_i s2 h2
     refine wN hcall hR (hE.ev _) h1 _ Q ?_ ro;intro c w' J' hG hlm hv henv hA _;have hE':ER J' s1 a:=by
      have:=hE.mono (J':=J') hG.mono hlm;intro t u hu;exact this t u (by rw[henv]at hu;exact hu)
     have hE2:=sJ h2 hE' hn hv;have hG2:aQ J s w J' s2 w':=by rw[bX h2];exact hG.env _
     refine s8 hcall more l (k+1) s2 J' w' (a.put o.dst c) s' hl' h hG2.hr hE2 (by rw[dA];exact hn) ?_;rintro a' w2 ⟨J2,q1,q2,q3,q4,q5⟩;rw[show k+1+l.length=k+(l.length+1) by omega];exact hQ a' w2 ⟨J2,hG2.trans q1,q2,by rw[q3,dA],by rw[q4,fH],hA.trans (q5.mono (fun k hk=>Nat.le_trans hG2.next hk))⟩
    ·cases h
   ·cases h
  ·rename_i hw
   rw[gJ hw (hE.gu ops o),if_neg (by simp)];split at h
   ·rename_i s1 h1
    have hE2:=sJ h1 hE hn (c:=undef) (.glob _ _ (VG.of_flat rfl));have hG2:aQ J s w J s1 w:=by rw[bX h1];exact(aQ.refl hR).env _
    refine⟨fun _ _=>trivial,?_⟩;refine s8 hcall more l (k+1) s1 J w (a.put o.dst undef) s' hl' h hG2.hr hE2 (by rw[dA];exact hn) ?_;rintro a' w2 ⟨J2,q1,q2,q3,q4,q5⟩;rw[show k+1+l.length=k+(l.length+1) by omega];exact hQ a' w2 ⟨J2,hG2.trans q1,q2,by rw[q3,dA],by rw[q4,fH],q5.mono (fun k hk=>Nat.le_trans hG2.next hk)⟩
   ·cases h
  ·cases h
theorem WN.cap{H:bg}{call:bS}(hcall:fz P call){f:FuncId}{nt id d:Nat}{x:Operand}{t e:TypeId}{o:Oper}{pre rest:List Oper}{ops:Array Oper}(hops:ops.toList=pre++o :: rest)
  (ho:o.op=.call { callee:=.builtin .cap,args:=#[x],argTypes:=#[t] }) (hd:o.dst=some d) (hdn:d<nt) (hg:o.guard=none) (ht:P.underlying t=some (.slice e))
  {s s1:St} (hpre:jz P H call f nt ops pre s=some s1) {b:Nat} {off n k:Nat} (hx:bq s1 x=some (.slice (some ⟨b,off,none⟩) n k)) {Q:Exit->St->Prop}
  (h:∀c:Nat,bW k<=c->∃s2,jz P H call f nt ops rest { s1 with env:=s1.env.set d (.int .i64 c) }=some s2/\Q .normal s2):WN P nt (.region id ops false) s Q:=by
 intro J w a hR hE hn;refine wpIn_region ?_;have hsz:ops.size=pre.length+(1+rest.length):=by have:=congrArg List.length hops;simp at this;omega
 have h0:∀j,j<pre.length->pre[j]?=ops[0+j]?:=fun j hj=>by rw[Nat.zero_add,<-Array.getElem?_toList,hops,List.getElem?_append_left hj]
 have h1:ops[pre.length]?=some o:=by rw[<-Array.getElem?_toList,hops,List.getElem?_append_right (Nat.le_refl _)];simp
 have hrest:∀j,rest[j]?=ops[pre.length+1+j]?:=fun j=>by rw[<-Array.getElem?_toList,hops,List.getElem?_append_right (by omega),show pre.length+1+j-pre.length=j+1 by omega];rfl
 rw[List.range_eq_range',hsz];refine s8 hcall (1+rest.length) pre 0 s J w a s1 h0 hpre hR hE hn ?_;rintro a1 w1 ⟨J1,g1,g2,g3,g4,g5⟩;rw[Nat.zero_add,Nat.add_comm 1,List.range'_succ];have hw:Region.wanted o (yielded ops a1.tmps)=true:=by unfold Region.wanted;rw[hg]
 simp only[wpOpsIn,h1,hw,if_true];obtain⟨a',c',hev,hc⟩:=((g2.eval hx).of_noLoc rfl).sliceAny;have hnd:∀c,o.op≠.defer c:=fun c e=>by rw[ho]at e;cases e
 have hex:execOp a1.eval o=((Builtin.cap_ #[t] o.type #[.slice a' n c']) >>= fun u=>pure (Next.value u)):=by
  unfold execOp;simp only[ho,resolve,invoke,builtin];simp[hev]
 obtain⟨s2,k1,k2⟩:=h c' hc;have hrun:(Builtin.cap_ #[t] o.type #[.slice a' n c']).run P w1=.ok (.int .i64 c') w1:=by simp[Builtin.cap_,aE ht,goInt]
 have hop:=dg.op (dg.still (R:=(s1.h.next<=·)) (Rl:=fun _=>False) g1.hr hrun (.glob _ _ (VG.of_flat (v:=.int .i64 c') rfl)));rw[<-hex]at hop;refine zn.goes hnd hop _ _ ?_ none;intro c w' J' hG hlm hv henv hA _;have hE':ER J' { s1 with env:=s1.env.set d (.int .i64 c') } (a1.put o.dst c):=by
  rw[hd];intro t u hu;have hu':(s1.env.set d (.int .i64 c')).get t=some u:=hu;rw[cg.get_set]at hu';show t<(a1.tmps.setIfInBounds d c).size/\VR J' u ((a1.tmps.setIfInBounds d c).getD t undef);by_cases e:d=t
  ·rw[if_pos e]at hu'
   subst e;obtain rfl:=Option.some.inj hu';refine⟨by simp;omega,?_⟩;rw[show(a1.tmps.setIfInBounds d c).getD d undef=c by simp[Array.getD,show d<a1.tmps.size by omega]];exact hv
  ·rw[if_neg e]at hu'
   obtain⟨k1,k2⟩:=g2 t u hu';refine⟨by simpa using k1,?_⟩;rw[show(a1.tmps.setIfInBounds d c).getD t undef=a1.tmps.getD t undef by simp[Array.getD,k1,e]];exact k2.mono hG.mono hlm
 refine nU hcall rest (pre.length+1) _ J' w' _ s2 hrest k1 (hG.env _).hr hE' (by rw[dA,g3];exact hn) ?_;rintro a2 w2 ⟨J2,q1,q2,q3,q4,q5⟩;refine⟨s2,k2,J2,g1.trans ((hG.env (s1.env.set d (.int .i64 c'))).trans q1),q2,by rw[q3,dA,g3],by rw[q4,fH,g4];exact .none _ _ _ _,g5.trans (dI.mono (hA.trans (q5.mono (fun k hk=>Nat.le_trans hG.next hk))) (fun k hk=>Nat.le_trans g1.next hk))⟩
end Go.Sim
namespace Go.Sim
open Go.RowKit
def vC:Value->Bool
 | .slice (some ⟨_,_,none⟩) _ _=>true
 |_=>false
def im(args:List Value)(h:af):Option (Value×af):=
 match args with
 | [.slice (some ⟨b,0,none⟩) n k,.int .i64 i,.slice (some ⟨vb,0,none⟩) 1 1]=>
  match h.m.get b,h.m.get vb with
  |some (.live true 1 cs),some (.live true 1 [v])=>
   bif Nat.beq k (ar 1 n) && Nat.beq cs.length n && decide (0<=i/\i<n) && cs.all vC && vC v && !(Nat.beq b vb) && Nat.ble n 1000 then
    some (.slice (some ⟨h.next,0,none⟩) (n+1) (ar 1 (n+1)),(h.kill b).push 1 (cs.take i.toNat++v :: cs.drop i.toNat))else none
  |_,_=>none
 |_=>none
def iA(args:List Value)(h:af):Option (Value×af):=
 match args with
 | [.slice (some ⟨a,_,none⟩) _ _,.slice (some ⟨b,_,none⟩) _ _]=>
  match h.m.get a,h.m.get b with
  |some (.live true 1 (_ :: _)),some (.live true 1 (_ :: _))=>bif Nat.beq a b then none else some (.bool false,h)
  |_,_=>none
 |_=>none
def nK(g0:FuncId)(f:List Value->af->Option (Value×af))(F:aM):aM:=fun g args h=>bif Nat.beq g g0 then(match f args h with|some r=>some r|none=>F g args h)else F g args h
theorem lK{args:List Value}{h h':af}{r:Value}(hc:im args h=some (r,h')):∃b n i vb cs v,args=[.slice (some ⟨b,0,none⟩) n (ar 1 n),.int .i64 (Int.ofNat i),.slice (some ⟨vb,0,none⟩) 1 1]/\h.m.get b=some (.live true 1 cs)/\h.m.get vb=some (.live true 1 [v])/\cs.length=n/\i<n/\cs.all vC=true/\vC v=true/\b≠vb/\n<=1000 /\
  r=.slice (some ⟨h.next,0,none⟩) (n+1) (ar 1 (n+1))/\h'=(h.kill b).push 1 (cs.take i++v :: cs.drop i):=by
 unfold im at hc;split at hc
 ·rename_i b n k i vb
  split at hc
  ·rename_i cs v h1 h2
   obtain⟨hb,hc⟩:=jM hc;simp only[Bool.and_eq_true,decide_eq_true_eq,Bool.not_eq_true']at hb;obtain⟨⟨⟨⟨⟨⟨k1,k2⟩,k3,k4⟩,k5⟩,k6⟩,k7⟩,k8⟩:=hb;have k1:=Nat.eq_of_beq_eq_true k1;have k2:=Nat.eq_of_beq_eq_true k2;have k8:=Nat.le_of_ble_eq_true k8;obtain⟨rfl,rfl⟩:=Prod.mk.inj hc;obtain⟨j,rfl⟩:∃j:Nat,i=j:=⟨i.toNat,by omega⟩;subst k1;exact⟨b,n,j,vb,cs,v,rfl,h1,h2,k2,by omega,k5,k6,(fun e=>by rw[e,Nat.beq_refl]at k7;cases k7),k8,rfl,rfl⟩
  ·cases hc
 ·cases hc
end Go.Sim
namespace Go.Sim
open Go.RowKit
theorem vW{v:Value}(h:vC v=true):∃b o n k,v=.slice (some ⟨b,o,none⟩) n k:=by
 unfold vC at h;split at h
 ·exact⟨_,_,_,_,rfl⟩
 ·cases h
theorem Ai{P:Program}{g0:FuncId}{f:List Value->af->Option (Value×af)}{F:aM}(hF:cU P F)
  (hf:∀args h v h',f args h=some (v,h')->∀(G:Nat->Option cN) (w:World) (cargs:List Value),HR ⟨G,fun _=>none⟩ (fV h) w->dK G args cargs->pF P g0 cargs.toArray w (fun c w'=>∃G',VG G' v c/\aQ ⟨G,fun _=>none⟩ (fV h) w ⟨G',fun _=>none⟩ (fV h') w'/\dI (h.next<=·) G G')):cU P (nK g0 f F):=by
 intro g args h v h' hc hg G w cargs hR hA;unfold nK at hc;cases hb:Nat.beq g g0 with
 |false=>rw[hb]at hc;exact hF g args h v h' hc hg G w cargs hR hA
 |true=>
  obtain rfl:=Nat.eq_of_beq_eq_true hb;rw[hb]at hc;simp only[cond_true]at hc;split at hc
  ·rename_i r hr
   simp only[oi]at hc;subst hc;exact hf args h v h' hr G w cargs hR hA
  ·exact hF g args h v h' hc hg G w cargs hR hA
theorem tV{g0:FuncId}{f:List Value->af->Option (Value×af)}{F:aM}(hf:∀args h v h',f args h=some (v,h')->bz h.next h h')(hF:aP F):aP (nK g0 f F):=by
 intro g args h v h' hc;unfold nK at hc;cases hb:Nat.beq g g0 with
 |false=>rw[hb]at hc;exact hF g args h v h' hc
 |true=>
  rw[hb]at hc;simp only[cond_true]at hc;split at hc
  ·rename_i r hr
   simp only[oi]at hc;subst hc;exact hf args h v h' hr
  ·exact hF g args h v h' hc
theorem wQ(args:List Value)(h:af)(v:Value)(h':af)(hc:im args h=some (v,h')):bz h.next h h':=by
 obtain⟨b,n,i,vb,cs,v,rfl,h1,_,_,_,_,_,_,_,rfl,rfl⟩:=lK hc;have k1:bz h.next h (h.kill b):=bz.kill (by rw[h1];simp);exact k1.trans (bz.push (h:=h.kill b) (by show h.next<=h.next;omega) _ _)
theorem vo(args:List Value)(h:af)(v:Value)(h':af)(hc:iA args h=some (v,h')):bz h.next h h':=by
 unfold iA at hc;split at hc
 ·split at hc
  ·rename_i a _ _ _ b _ _ _ _ _ _ _ _ _ _
   revert hc
   cases Nat.beq _ _ with
   |true=>intro hc;cases hc
   |false=>
    intro hc;simp only[cond_false,oi,pj]at hc;rw[hc.2];exact .refl _ _
  ·cases hc
 ·cases hc
theorem VG.backS{G G':Nat->Option cN}(hm:∀id L,G id=some L->G' id=some L){a:Addr}{len k:Nat}{c:Value}(hs:a.spot=none){L1:cN}(h1:G a.block=some L1)(h:VG G' (.slice (some a) len k) c):VG G (.slice (some a) len k) c:=by
 have e:=hm _ _ h1;cases h with
 |flat _ h=>simp[aU]at h
 |sliceX _ L _ _ _ h hc=>
  rw[e]at h;obtain rfl:=Option.some.inj h;exact .sliceX _ _ _ _ hs h1 hc
 |sliceI _ L _ m c _ h hm hms ht=>
  rw[e]at h;obtain rfl:=Option.some.inj h;exact .sliceI _ _ _ _ _ hs h1 hm hms ht
 |sliceE _ a' x h=>rw[hs]at h;cases h
 |sliceZ _ a' x c h=>rw[hs]at h;cases h
theorem HR.room{G:Nat->Option cN}{h:af}{w:World}{b es:Nat}{cs:List Value}{L:cN}(hR:HR ⟨G,fun _=>none⟩ (fV h) w)(hb:G b=some L)(hm:h.m.get b=some (.live true es cs))(hk:L.o+cs.length+1<=L.tot) :
  HR ⟨G,fun _=>none⟩ (fV { h with m:=h.m.set b (.live true es (cs++[.chan none])) }) w:=by
 have get:∀k,(h.m.set b (.live true es (cs++[.chan none]))).get k=if b=k then some (.live true es (cs++[.chan none]))else h.m.get k:=fun k=>by rw[cg.get_set]
 refine { gdom:=hR.gdom,gblk:=hR.gblk,gcon:=?_,ginj:=?_,ldom:=hR.ldom,lcon:=hR.lcon,linj:=hR.linj,sep:=hR.sep }
 ·intro k L1 blk h1 h2
  have h2':(h.m.set b (.live true es (cs++[.chan none]))).get k=some blk:=h2;rw[get]at h2';by_cases e:b=k
  ·subst e
   rw[if_pos rfl]at h2';obtain rfl:=Option.some.inj h2';have h1':G b=some L1:=h1;rw[hb]at h1';obtain rfl:=Option.some.inj h1';obtain⟨q1,cv,e,fr,q2,q3,q4⟩:=hR.gcon b L _ hb hm;refine⟨q1,cv,e,fr,q2,?_,q4⟩;intro i v hi;by_cases c:i<cs.length
   ·rw[List.getElem?_append_left c]at hi
    exact q3 i v hi
   ·have hi2:=(List.getElem?_eq_some_iff.1 hi).1
    rw[List.length_append,List.length_singleton]at hi2;obtain rfl:i=cs.length:=by omega
    rw[List.getElem?_append_right (Nat.le_refl _)]at hi;simp at hi;subst hi;obtain⟨o,r1,r2⟩:=hR.gblk b L hb;have:=r2 cv e fr (by rw[q2]at r1;exact(Option.some.inj r1).symm);exact⟨cv[L.o+cs.length]'(by omega),Array.getElem?_eq_getElem _,.junk _⟩
  ·rw[if_neg e]at h2'
   exact hR.gcon k L1 blk h1 h2'
 ·intro k k' L1 L2 b1 b2 h1 h2 h3 h4 a1 a2 he
  have alv:∀k b1,(h.m.set b (.live true es (cs++[.chan none]))).get k=some b1->b1.alive=true->∃b2,h.m.get k=some b2/\b2.alive=true:=fun k b1 q1 q2=>by
   rw[get]at q1;by_cases e:b=k
   ·subst e;exact⟨_,hm,rfl⟩
   ·rw[if_neg e]at q1;exact⟨_,q1,q2⟩
  obtain⟨c1,d1,d2⟩:=alv k b1 h3 a1;obtain⟨c2,d3,d4⟩:=alv k' b2 h4 a2;exact hR.ginj k k' L1 L2 c1 c2 h1 h2 d1 d3 d2 d4 he
theorem aQ.moved{G G':Nat->Option cN}{h h2 h':af}{w w':World}{b b2:Nat}{L:cN}{cells:List Value}(hR:HR ⟨G,fun _=>none⟩ (fV h) w)(hb:b<h.next)(hG:aQ ⟨G,fun _=>none⟩ (fV h2) w ⟨G',fun _=>none⟩ (fV h') w')
  (hL:G' b2=some L) (hc:h'.m.get b2=some (.live true 1 cells)) (hkeep:∀k L1 blk,k≠b->G k=some L1->h.m.get k=some blk->BR G blk L1 w'.heap[L1.b]?) (hsep:∀k L1 blk,k≠b->G k=some L1->h.m.get k=some blk->blk.alive=true->L1.b≠L.b)
  (hfr:w.heap.size<=L.b\/G b=some L) (hlow:Nat.min h.low b<=h'.low) (hhd:∀v∈cells,∃a len k L1,v=.slice (some a) len k/\a.spot=none/\G a.block=some L1) :
  ∃G2,G2 h.next=some L/\(∀id L,G id=some L->G2 id=some L)/\aQ ⟨G,fun _=>none⟩ (fV h) w ⟨G2,fun _=>none⟩ (fV ((h.kill b).push 1 cells)) w'/\dI (h.next<=·) G G2:=by
 let G2:Nat->Option cN:=fun k=>if k=h.next then some L else G k
 have split:∀k L1,G2 k=some L1->(k=h.next/\L1=L)\/(k≠h.next/\G k=some L1):=fun k L1 h1=>by
  by_cases e:k=h.next
  ·left;simp only[G2,e,if_true,oi]at h1;exact⟨e,h1.symm⟩
  ·right;simp only[G2,e,if_false]at h1;exact⟨e,h1⟩
 have up:∀k L1,G k=some L1->G2 k=some L1:=fun k L1 h1=>by
  have:k<h.next:=hR.gdom k L1 h1;simp only[G2,show ¬k=h.next by omega,if_false,h1]
 have get:∀k,((h.kill b).push 1 cells).m.get k=if h.next=k then some (.live true 1 cells)else if b=k then some .dead else h.m.get k:=fun k=>by
  show((h.m.set b .dead).set h.next _).get k=_;rw[cg.get_set,cg.get_set]
 have ncase:∀k blk,k≠h.next->((h.kill b).push 1 cells).m.get k=some blk->blk=.dead\/(k≠b/\h.m.get k=some blk):=fun k blk hk q=>by
  rw[get,if_neg (fun e=>hk e.symm)]at q;by_cases e:b=k
  ·rw[if_pos e]at q;exact .inl (Option.some.inj q).symm
  ·rw[if_neg e]at q;exact .inr ⟨fun e'=>e e'.symm,q⟩
 refine⟨G2,by simp[G2],up,?_,fun k L1 h1=>?_⟩
 ·refine { hr:=?_,mono:=up,next:=by show h.next<=h.next+1;omega,low:=Nat.min_le_left _ _,size:=hG.size,os:=hG.os,tape:=hG.tape,output:=hG.output,fresh:=?_,lfresh:=(fun t L h=>by cases h),frame:=fun k hk hid hl=>hG.frame k hk (fun id L1 h0 he=>Nat.lt_of_lt_of_le (hid id L1 h0 he) hlow) hl }
  ·refine { gdom:=?_,gblk:=?_,gcon:=?_,ginj:=?_,ldom:=(fun t L h=>by cases h),lcon:=(fun t L h=>by cases h),linj:=(fun t t' L L' h=>by cases h),sep:=(fun id t L L' _ h=>by cases h) }
   ·intro k L1 h1
    show k<h.next+1;rcases split k L1 h1 with ⟨e,_⟩|⟨_,h2⟩
    ·omega
    ·have:k<h.next:=hR.gdom k L1 h2;omega
   ·intro k L1 h1
    rcases split k L1 h1 with ⟨_,rfl⟩|⟨_,h2⟩
    ·exact hG.hr.gblk b2 _ hL
    ·exact hG.hr.gblk k L1 (hG.mono k L1 h2)
   ·intro k L1 b1 h1 h2
    rcases split k L1 h1 with ⟨rfl,rfl⟩|⟨hk,h3⟩
    ·have h2':((h.kill b).push 1 cells).m.get h.next=some b1:=h2
     rw[get,if_pos rfl]at h2';obtain rfl:=Option.some.inj h2';obtain⟨k1,cs,e,fr,k2,k3,k4⟩:=hG.hr.gcon b2 _ _ hL hc;refine⟨k1,cs,e,fr,k2,fun i v hi=>?_,k4⟩;obtain⟨cv,q1,q2⟩:=k3 i v hi;obtain⟨a,len,kk,L1,rfl,g1,g2⟩:=hhd v (List.mem_of_getElem? hi);exact⟨cv,q1,(VG.backS hG.mono g1 g2 q2).mono up⟩
    ·rcases ncase k b1 hk h2 with rfl|⟨hkb,q⟩
     ·trivial
     ·exact(hkeep k L1 b1 hkb h3 q).mono up
   ·intro k k' L1 L2 b1 b2' h1 h2 h3 h4 a1 a2 he
    rcases split k L1 h1 with ⟨e1,rfl⟩|⟨e1,g1⟩<;>rcases split k' L2 h2 with ⟨e2,rfl⟩|⟨e2,g2⟩
    ·rw[e1,e2]
    ·rcases ncase k' b2' e2 h4 with rfl|⟨hkb,q⟩
     ·cases a2
     ·exact absurd he.symm (hsep k' L2 b2' hkb g2 q a2)
    ·rcases ncase k b1 e1 h3 with rfl|⟨hkb,q⟩
     ·cases a1
     ·exact absurd he (hsep k L1 b1 hkb g1 q a1)
    ·rcases ncase k b1 e1 h3 with rfl|⟨hkb,q⟩
     ·cases a1
     rcases ncase k' b2' e2 h4 with rfl|⟨hkb2,q2⟩
     ·cases a2
     exact hR.ginj k k' L1 L2 b1 b2' g1 g2 q q2 a1 a2 he
  ·intro k L1 h1 h2
   rcases split k L1 h1 with ⟨_,rfl⟩|⟨_,h3⟩
   ·rcases hfr with q|q
    ·exact .inl q
    ·exact .inr ⟨b,_,q,rfl,Nat.min_le_right _ _⟩
   ·have h2':G k=none:=h2
    rw[h2']at h3;cases h3
 ·rcases split k L1 h1 with ⟨e,_⟩|⟨_,h2⟩
  ·right;show h.next<=k;omega
  ·exact .inl h2
end Go.Sim
namespace Go.Sim
open Go.RowKit
theorem vz{P : Program}{g : FuncId}{fn : Func}{tS tR e : TypeId}(hf : P.funcs[g]? = some fn)(hname : (fn.name == "runtime.NumGoroutine") = false)(hb : fn.body.isNone = true)(hn : Extern.findNext fn = none)
  (he:Extern.find fn=some (Extern.SlicesOverlaps.overlaps #[tS,tS] #[tR])) (ht:P.underlying tS=some (.slice e)) (hz:∀w,(Go.sizeOf e).run P w=.ok 1 w) (args:List Value) (h:af) (v:Value) (h':af) (hc:iA args h=some (v,h'))
  (G:Nat->Option cN) (w:World) (cargs:List Value) (hR:HR ⟨G,fun _=>none⟩ (fV h) w) (hA:dK G args cargs):pF P g cargs.toArray w (fun c w'=>∃G',VG G' v c/\aQ ⟨G,fun _=>none⟩ (fV h) w ⟨G',fun _=>none⟩ (fV h') w'/\dI (h.next<=·) G G'):=by
 unfold iA at hc;split at hc
 ·rename_i a oa la ca b ob lb cb
  split at hc
  ·rename_i v1 r1 v2 r2 h1 h2
   revert hc
   cases hab:Nat.beq a b with
   |true=>intro hc;cases hc
   |false=>
    intro hc;simp only[cond_false,oi,pj]at hc;obtain⟨rfl,rfl⟩:=hc;obtain⟨x1,l1,rfl,g1,hA⟩:=hA.head;obtain⟨x2,l2,rfl,g2,hA⟩:=hA.head;obtain rfl:l2=[]:=List.eq_nil_of_length_eq_zero hA.1.symm;rcases g1.sliceL with ⟨_,L1,c1,hL1,rfl,_⟩|⟨_,⟨x,hx⟩,_⟩
    rotate_left
    ·cases hx
    rcases g2.sliceL with ⟨_,L2,c2,hL2,rfl,_⟩|⟨_,⟨x,hx⟩,_⟩
    rotate_left
    ·cases hx
    obtain⟨_,cs1,e1,f1,k1,k2,k3⟩:=hR.gcon _ _ _ hL1 h1;obtain⟨_,cs2,e2,f2,q1,q2,q3⟩:=hR.gcon _ _ _ hL2 h2;obtain rfl:=k3 rfl;obtain rfl:=q3 rfl;have hne:L1.b≠L2.b:=fun q=>by
     have:=hR.ginj a b L1 L2 _ _ hL1 hL2 h1 h2 rfl rfl q;rw[this,Nat.beq_refl]at hab;cases hab
    obtain⟨cv,z1,_⟩:=q2 0 v2 rfl;have hk2:cs2.size≠0:=by have:=(Array.getElem?_eq_some_iff.1 z1).1;omega
    refine .inr ⟨.bool false,w,?_,G,.of_flat rfl,.refl hR,.refl _ _⟩;show(callFunc g #[.slice (some ⟨L1.b,L1.o+oa,none⟩) la c1,.slice (some ⟨L2.b,L2.o+ob,none⟩) lb c2]).run P w=_;rw[run_callFunc_extern hf hname hb hn he,Lib.run_overlaps_apart w tS tR e ht 1 hz ⟨L1.b,L1.o+oa,none⟩ ⟨L2.b,L2.o+ob,none⟩ la c1 lb c2 hne e1 e2 cs1.size cs2.size (by unfold World.shape?;simp only[k1]) (by unfold World.shape?;simp only[q1]) hk2 (by unfold World.frozen?;simp only[k1];simp) (by unfold World.frozen?;simp only[k1];simp)];rfl
  ·cases hc
 ·cases hc
end Go.Sim
namespace Go.Sim
open Go.RowKit
theorem mQ{P:Program}{H:bg}{call:bS}{f:FuncId}{nt:Nat}{ops:Array Oper}{o:Oper}{rest:List Oper}{s s':St}{v:Value}{d:Tmp}(hg:o.guard=none)(hd:o.dst=some d)(hdn:d<nt)(h1:o7 P H call f o s=some (v,s))(h:jz P H call f nt ops rest { s with env:=s.env.set d v }=some s') :
  jz P H call f nt ops (o :: rest) s=some s':=by
 have hw:gU ops o s=some true:=by unfold gU;rw[hg]
 have hbl:Nat.blt d nt=true:=aS hdn;simp only[jz,hw,h1,hd,o9,hbl,cond_true];exact h
theorem oB.room{P:Unit->Program}{nt id:Nat}(hnt:32<=nt){ti tj tk tl e:TypeId}{o1 o2 o3 o4 o5 o6:Oper}{ops:Array Oper}(hops:ops.toList=[o1,o2,o3,o4,o5,o6])
  (p1:o1.op=.move (.tmp 8)) (p2:o2.op=.move (.tmp 7)) (p3:o3.op=.binOp .add ti (.tmp 26) (.tmp 27) tj) (p4:o4.op=.move (.tmp 0)) (p5:o5.op=.call { callee:=.builtin .cap,args:=#[.tmp 29],argTypes:=#[tl] }) (p6:o6.op=.binOp .gtr ti (.tmp 28) (.tmp 30) tk)
  (d1:o1.dst=some 26) (d2:o2.dst=some 27) (d3:o3.dst=some 28) (d4:o4.dst=some 29) (d5:o5.dst=some 30) (d6:o6.dst=some 31) (g1:o1.guard=none) (g2:o2.guard=none) (g3:o3.guard=none) (g4:o4.guard=none) (g5:o5.guard=none) (g6:o6.guard=none)
  (ht:(P ()).underlying tl=some (.slice e)) {s:SS} {n b off k:Nat} (e8:lk s.env 8=some (.int .i64 n)) (e7:lk s.env 7=some (.int .i64 1)) (e0:lk s.env 0=some (.slice (some ⟨b,off,none⟩) n k)) (hlow:∀p∈s.env,p.1<26) (hn:n<=1000) (hk:n+1<=bW k) {Q:Exit->SS->Prop}
  (h:Q .normal { s with env:=(31,.bool false) :: s.env }):oB P nt (.region id ops false) s Q:=by
 refine⟨?_⟩;intro t hs hl;have hcall:fz (P ()) (fun _ _ _=>none):=⟨fun g args h v h' hc=>(by cases hc),fun g args h v h' hc=>(by cases hc)⟩;have t8:t.env.get 8=some (.int .i64 n):=hs.env _ _ e8;have t7:t.env.get 7=some (.int .i64 1):=hs.env _ _ e7;have t0:t.env.get 0=some (.slice (some ⟨b,off,none⟩) n k):=hs.env _ _ e0;have eop:∀{o:Oper} {s:St} {v:Value},dr o.op=none->fe (P ()) s.new (dC yh 0 o) o.op s=some (v,s)->o7 (P ()) yh (fun _ _ _=>none) 0 o s=some (v,s):=fun h1 h2=>by unfold o7;rw[h1];exact h2
 have w1:IntKind.wrap .i64 ((n:Int)+1)=(n:Int)+1:=fX (by omega) (by omega);refine WN.cap (H:=yh) (f:=0) hcall (pre:=[o1,o2,o3,o4]) (rest:=[o6]) hops p5 d5 (Nat.lt_of_lt_of_le (by decide) hnt) g5 ht (s1:={ t with env:=(((t.env.set 26 (.int .i64 n)).set 27 (.int .i64 1)).set 28 (.int .i64 ((n:Int)+1))).set 29 (.slice (some ⟨b,off,none⟩) n k) }) ?_ (b:=b) (off:=off) (n:=n) (k:=k) ?_ (fun c hc=>?_)
 ·refine mQ g1 d1 (Nat.lt_of_lt_of_le (by decide) hnt) (eop (by rw[p1];rfl) (v:=.int .i64 n) (by rw[p1];simp only[fe,bq,t8])) ?_
  refine mQ g2 d2 (Nat.lt_of_lt_of_le (by decide) hnt) (eop (by rw[p2];rfl) (v:=.int .i64 1) (by rw[p2];simp only[fe,bq,cg.get_set];simp[t7])) ?_;refine mQ g3 d3 (Nat.lt_of_lt_of_le (by decide) hnt) (eop (by rw[p3];rfl) (v:=.int .i64 ((n:Int)+1)) (by rw[p3];simp only[fe,bq,cg.get_set];simp[vc,rF,w1])) ?_;refine mQ g4 d4 (Nat.lt_of_lt_of_le (by decide) hnt) (eop (by rw[p4];rfl) (v:=.slice (some ⟨b,off,none⟩) n k) (by rw[p4];simp only[fe,bq,cg.get_set];simp[t0])) ?_;rfl
 ·simp only[bq,cg.get_set];simp
 ·have hlt:(decide ((c:Int)<(n:Int)+1))=false:=by simp;omega
  refine⟨_,mQ g6 d6 (Nat.lt_of_lt_of_le (by decide) hnt) (eop (by rw[p6];rfl) (v:=.bool false) (by rw[p6];simp only[fe,bq,cg.get_set];simp[vc,rF];omega)) rfl,{ s with env:=(31,.bool false) :: s.env },⟨fun i v hv=>?_,hs.K,hs.kn,hs.h⟩,hl,h⟩;show((((((t.env.set 26 _).set 27 _).set 28 _).set 29 _).set 30 _).set 31 _).get i=some v;simp only[jm]at hv;rw[cg.get_set];by_cases c1:31=i
  ·rw[if_pos c1]at hv ⊢;exact hv
  ·rw[if_neg c1]at hv ⊢
   have hi:i<26:=hlow _ (Bz hv);simp only[cg.get_set];rw[if_neg (by omega),if_neg (by omega),if_neg (by omega),if_neg (by omega),if_neg (by omega)];exact hs.env i v hv
end Go.Sim
namespace Go.Sim
open Go.RowKit
theorem VG.back{G G':Nat->Option cN}(hm:∀id L,G id=some L->G' id=some L){v c0:Value}(h0:VG G v c0):∀c,VG G' v c->VG G v c:=by
 induction h0 with
 |flat v h=>intro c hc;rw[VG.flat1_eq hc h];exact .flat v h
 |junk _=>intro c _;exact .junk c
 |ptr a L hs h=>
  intro c hc;have e:=hm _ _ h;cases hc with
  |flat _ h'=>simp[aU]at h'
  |ptr _ L' _ h'=>rw[e]at h';obtain rfl:=Option.some.inj h';exact .ptr a L hs h
 |sliceX a L len k hs h hc0=>intro c hc;exact VG.backS hm hs h hc
 |sliceI a L len m c' hs h _ _ _=>intro c hc;exact VG.backS hm hs h hc
 |sliceE a a' x hs=>
  intro c hc;rcases hc.sliceL with ⟨hs',_⟩|⟨_,⟨x2,h2⟩,a2,c2,rfl,q⟩
  ·rw[hs]at hs';cases hs'
  ·rcases q with ⟨_,rfl⟩|q
   ·exact .sliceE a a2 x hs
   ·unfold aI at q;omega
 |sliceZ a a' x c1 hs=>
  intro c hc;rcases hc.sliceL with ⟨hs',_⟩|⟨_,⟨x2,h2⟩,a2,c2,rfl,q⟩
  ·rw[hs]at hs';cases hs'
  ·exact .sliceZ a a2 x c2 hs
 |mapR id L h=>
  intro c hc;have e:=hm _ _ h;cases hc with
  |flat _ h'=>simp[aU]at h'
  |mapR _ L' h'=>rw[e]at h';obtain rfl:=Option.some.inj h';exact .mapR id L h
 |yield y L h=>
  intro c hc;have e:=hm _ _ h;cases hc with
  |flat _ h'=>simp[aU]at h'
  |yield _ L' h'=>rw[e]at h';obtain rfl:=Option.some.inj h';exact .yield y L h
 |func f x y x' y' hx hy h1 h2 ih1 ih2=>
  intro c hc;cases hc with
  |flat _ h'=>simp[aU]at h'
  |func _ _ _ x2 y2 hx2 hy2 k1 k2=>
   refine .func f x y x2 y2 hx2 hy2 (fun i u v hu hv=>?_) (fun i u v hu hv=>?_)
   ·have:=(List.getElem?_eq_some_iff.1 hu).1
    exact ih1 i u _ hu (List.getElem?_eq_getElem (by omega)) v (k1 i u v hu hv)
   ·have:=(List.getElem?_eq_some_iff.1 hu).1
    exact ih2 i u _ hu (List.getElem?_eq_getElem (by omega)) v (k2 i u v hu hv)
 |agg x x' hx h1 ih=>
  intro c hc;cases hc with
  |flat _ h'=>simp[aU]at h'
  |agg _ x2 hx2 k1=>
   refine .agg x x2 hx2 (fun i u v hu hv=>?_);have:=(List.getElem?_eq_some_iff.1 hu).1;exact ih i u _ hu (List.getElem?_eq_getElem (by omega)) v (k1 i u v hu hv)
 |tuple x x' hx h1 ih=>
  intro c hc;cases hc with
  |flat _ h'=>simp[aU]at h'
  |tuple _ x2 hx2 k1=>
   refine .tuple x x2 hx2 (fun i u v hu hv=>?_);have:=(List.getElem?_eq_some_iff.1 hu).1;exact ih i u _ hu (List.getElem?_eq_getElem (by omega)) v (k1 i u v hu hv)
theorem BR.back{G G':Nat->Option cN}(hm:∀id L,G id=some L->G' id=some L){b:yS}{L:cN}{o0 o:Option Obj}(h0:BR G b L o0)(h:BR G' b L o):BR G b L o:=by
 cases b with
 |dead=>trivial
 |live wr es cells=>
  obtain⟨_,cs0,e0,f0,_,q3,_⟩:=h0;obtain⟨h1,cs,e,fr,h2,h3,h4⟩:=h;refine⟨h1,cs,e,fr,h2,fun i v hi=>?_,h4⟩;obtain⟨c0,_,k2⟩:=q3 i v hi;obtain⟨c,r1,r2⟩:=h3 i v hi;exact⟨c,r1,k2.back hm c r2⟩
 |map es=>
  obtain⟨ces0,_,_,q2⟩:=h0;obtain⟨ces,clock,h1,h2⟩:=h;refine⟨ces,clock,h1,h2.1,fun i e c he hc=>⟨(h2.2 i e c he hc).1,?_⟩⟩;have:=(List.getElem?_eq_some_iff.1 he).1;exact(q2.2 i e _ he (List.getElem?_eq_getElem (by rw[<-q2.1];exact this))).2.back hm _ (h2.2 i e c he hc).2
 |loop st pend f nt env ps assign body=>
  obtain⟨_,_,_,_,_,_,_,q4⟩:=h0;obtain⟨fn,tmps,params,D,h1,h2,h3,h4⟩:=h;refine⟨fn,tmps,params,D,h1,h2,h3,fun t v hv=>⟨(h4 t v hv).1,(q4 t v hv).2.back hm _ (h4 t v hv).2⟩⟩
