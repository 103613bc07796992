import Derived.Test.YtdpbiegfljmhmaaSymB
import Derived.Test.YtdpbiegfljmhmaaSimF
set_option linter.unusedSimpArgs false
set_option linter.unusedVariables false
namespace Go.Sim
theorem br{c:Bool}{A B:Prop}(p:Prop)[Decidable p](hc:c=decide p)(h1:p->A)(h2:¬p->B):cond c A B:=by
 subst hc;by_cases h:p
 ·simp only[h,decide_true,cond_true];exact h1 h
 ·simp only[h,decide_false,cond_false];exact h2 h
structure Ext(h h':AHeap):Prop where
 next:h.next<=h'.next
 low:h.low<=h.next->h'.low<=h'.next
 lowG:Nat.min h.low h.next<=h'.low
 get:∀b,b<h.next->h'.m.get b=h.m.get b
theorem Ext.refl(h:AHeap):Ext h h:=⟨Nat.le_refl _,fun h=>h,Nat.min_le_left _ _,fun _ _=>rfl⟩
theorem Ext.trans{a b c:AHeap}(h:Ext a b)(k:Ext b c):Ext a c:=
 ⟨Nat.le_trans h.next k.next,fun l=>k.low (h.low l),by
  have h1:=h.lowG;have h2:=k.lowG;have h3:=h.next;have:Nat.min a.low a.next<=a.next:=Nat.min_le_right _ _;have h4:Nat.min a.low a.next<=Nat.min b.low b.next:=Nat.le_min.2 ⟨h1,by omega⟩;omega,fun i hi=>(k.get i (Nat.lt_of_lt_of_le hi h.next)).trans (h.get i hi)⟩
theorem Ext.push(h:AHeap)(es:Nat)(cs:List Value):Ext h (h.push es cs):=
 ⟨by simp[AHeap.push],fun l=>by simp only[AHeap.push];omega,by simp only[AHeap.push];exact Nat.min_le_left _ _,fun b hb=>by simp only[AHeap.push];rw[Tri.get_set_ne _ _ (by omega)]⟩
theorem Ext.bump(h:AHeap)(n:Nat):Ext h (h.bump n):=
 ⟨by simp[AHeap.bump],fun l=>by simp only[AHeap.bump];omega,by simp only[AHeap.bump];exact Nat.min_le_left _ _,fun b hb=>rfl⟩
theorem Ext.write{h h1 h':AHeap}(k:Ext h h1){b o:Nat}{vs:List Value}(hb:h.next<=b)(hw:h1.write b o vs=some h'):Ext h h':=by
 have kb:=KeepB.write (B:=0) hw;unfold AHeap.write at hw;split at hw
 ·split at hw
  ·simp only[oi]at hw
   subst hw;refine⟨k.next,fun l=>?_,?_,fun i hi=>?_⟩
   ·have:=k.low l
    have h2:Nat.min h1.low b<=h1.low:=Nat.min_le_left _ _;show Nat.min h1.low b<=h1.next;omega
   ·have:=k.lowG
    show Nat.min h.low h.next<=Nat.min h1.low b;have h2:Nat.min h.low h.next<=h.next:=Nat.min_le_right _ _;exact Nat.le_min.2 ⟨this,by omega⟩
   ·show(h1.m.set b _).get i=_
    rw[Tri.get_set_ne _ _ (by omega)];exact k.get i hi
  ·cases hw
 ·cases hw
theorem Ext.kill{h h1:AHeap}(k:Ext h h1){b:Nat}(hb:h.next<=b):Ext h (h1.kill b):=by
 refine⟨k.next,fun l=>?_,?_,fun i hi=>?_⟩
 ·have:=k.low l
  have h2:Nat.min h1.low b<=h1.low:=Nat.min_le_left _ _;show Nat.min h1.low b<=h1.next;omega
 ·have:=k.lowG
  show Nat.min h.low h.next<=Nat.min h1.low b;have h2:Nat.min h.low h.next<=h.next:=Nat.min_le_right _ _;exact Nat.le_min.2 ⟨this,by omega⟩
 ·show(h1.m.set b _).get i=_
  rw[Tri.get_set_ne _ _ (by omega)];exact k.get i hi
theorem Ext.cells{h h':AHeap}(k:Ext h h'){b:Nat}(hb:b<h.next):h'.cells? b=h.cells? b:=by
 unfold AHeap.cells?;rw[k.get b hb]
def Cells(h:AHeap)(a:Option Addr)(n es:Nat)(cells:List Value):Prop:=
 match a with
 |none=>n=0/\cells=[]
 |some ad=>ad.spot=none/\ad.block<h.next/\h.readG ad (n*es)=some cells
theorem Cells.ext{h h':AHeap}{a:Option Addr}{n es:Nat}{cells:List Value}(c:Cells h a n es cells)(k:Ext h h'):Cells h' a n es cells:=by
 cases a with
 |none=>exact c
 |some ad=>
  obtain⟨h1,h2,h3⟩:=c;refine⟨h1,Nat.lt_of_lt_of_le h2 k.next,?_⟩;unfold AHeap.readG at h3 ⊢;rw[k.cells h2];exact h3
theorem Cells.length{h:AHeap}{a:Option Addr}{n es:Nat}{cells:List Value}(c:Cells h a n es cells):cells.length=n*es:=by
 cases a with
 |none=>obtain⟨rfl,rfl⟩:=c;simp
 |some ad=>
  obtain⟨h1,h2,h3⟩:=c;unfold AHeap.readG at h3;rw[h1]at h3;simp only[]at h3;split at h3
  ·exact(readN_spec h3).1
  ·cases h3
theorem readN_some{cs:List Value}{off n:Nat}{l:List Value}(h:(cs.drop off).take n=l)(hl:l.length=n):readN cs off n=some l:=by
 unfold readN;simp only[h,hl];simp
theorem readN_eq{cs:List Value}{off n:Nat}{l:List Value}(h:readN cs off n=some l):(cs.drop off).take n=l/\l.length=n:=by
 have h1:=(readN_spec h).1;unfold readN at h;obtain⟨_,h2⟩:=condSome h;exact⟨h2,h1⟩
theorem Cells.at{h:AHeap}{a:Option Addr}{n es:Nat}{cells:List Value}(c:Cells h a n es cells){i m:Nat}(hi:i+m<=n*es)(hm:0<m):∃b o,a=some ⟨b,o,none⟩/\b<h.next/\h.readG ⟨b,o+i,none⟩ m=some ((cells.drop i).take m):=by
 have hlen:=c.length;cases a with
 |none=>obtain⟨rfl,rfl⟩:=c;simp at hi;omega
 |some ad=>
  obtain⟨h1,h2,h3⟩:=c;obtain⟨b,o,sp⟩:=ad;simp only at h1;subst h1;refine⟨b,o,rfl,h2,?_⟩;unfold AHeap.readG at h3 ⊢;simp only[]at h3 ⊢;split at h3
  ·rename_i cs hcs
   obtain⟨e1,e2⟩:=readN_eq h3;refine readN_some ?_ ?_
   ·subst e1
    rw[List.drop_take,List.take_take,List.drop_drop,Nat.min_eq_left (by omega)]
   ·simp only[List.length_take,List.length_drop];omega
  ·cases h3
theorem take_one{α:Type}(l:List α)(i:Nat)(x:α)(h:l[i]?=some x):(l.drop i).take 1=[x]:=by
 obtain⟨hi,rfl⟩:=List.getElem?_eq_some_iff.1 h;rw[List.drop_eq_getElem_cons hi,List.take_succ_cons,List.take_zero]
def at'(l:List Int)(i:Int):Int:=l.getD i.toNat 0
theorem wrap64{x:Int}(h1:-9223372036854775808<=x)(h2:x<9223372036854775808):IntKind.wrap .i64 x=x:=by
 unfold IntKind.wrap;simp[IntKind.bits,IntKind.signed,IntKind.min,IntKind.max];omega
theorem wrap8{x:Int}(h1:0<=x)(h2:x<256):IntKind.wrap .u8 x=x:=by
 unfold IntKind.wrap;simp[IntKind.bits,IntKind.signed,IntKind.min,IntKind.max];omega
end Go.Sim
namespace Go.Sim
def Own(h:AHeap)(b es:Nat)(cells:List Value):Prop:=h.m.get b=some (.live true es cells)
theorem Own.push(h:AHeap)(es:Nat)(cs:List Value):Own (h.push es cs) h.next es cs:=by
 unfold Own AHeap.push;simp only[];rw[Tri.get_set_eq]
theorem Own.putAt(h:AHeap)(id es:Nat)(cs:List Value):Own (h.putAt id es cs) id es cs:=by
 unfold Own AHeap.putAt;simp only[];rw[Tri.get_set_eq]
theorem Own.ext{h h':AHeap}{b es:Nat}{cells:List Value}(c:Own h b es cells)(k:Ext h h')(hb:b<h.next):Own h' b es cells:=by
 unfold Own;rw[k.get b hb];exact c
theorem Own.readG{h:AHeap}{b es:Nat}{cells:List Value}(c:Own h b es cells){o n:Nat}(hn:o+n<=cells.length):h.readG ⟨b,o,none⟩ n=some ((cells.drop o).take n):=by
 unfold AHeap.readG AHeap.cells?;simp only[];rw[show h.m.get b=some (.live true es cells)from c];exact readN_some rfl (by simp only[List.length_take,List.length_drop];omega)
structure Wrote(h h':AHeap)(b:Nat):Prop where
 next:h'.next=h.next
 low:h'.low=Nat.min h.low b
 get:∀b',b'≠b->h'.m.get b'=h.m.get b'
theorem Own.write{h:AHeap}{b es:Nat}{cells:List Value}(c:Own h b es cells){o:Nat}{vs:List Value}(hn:o+vs.length<=cells.length):∃h',h.write b o vs=some h'/\Own h' b es (cells.take o++(vs++cells.drop (o+vs.length)))/\Wrote h h' b:=by
 refine⟨{ next:=h.next,low:=Nat.min h.low b,m:=h.m.set b (.live true es (cells.take o++(vs++cells.drop (o+vs.length)))) },?_,?_,rfl,rfl,fun b' hb'=>?_⟩
 ·unfold AHeap.write
  rw[show h.m.get b=some (.live true es cells)from c];simp only[splice];rw[ble_true hn];rfl
 ·unfold Own;simp only[];rw[Tri.get_set_eq]
 ·simp only[];rw[Tri.get_set_ne _ _ (fun e=>hb' e.symm)]
theorem Wrote.ext{h0 h h':AHeap}{b:Nat}(k:Wrote h h' b)(e:Ext h0 h)(hb:h0.next<=b):Ext h0 h':=by
 refine⟨by rw[k.next];exact e.next,fun l=>?_,?_,fun i hi=>?_⟩
 ·have:=e.low l
  rw[k.low,k.next];have h2:Nat.min h.low b<=h.low:=Nat.min_le_left _ _;omega
 ·have:=e.lowG
  rw[k.low];have h2:Nat.min h0.low h0.next<=h0.next:=Nat.min_le_right _ _;exact Nat.le_min.2 ⟨this,by omega⟩
 ·rw[k.get i (by omega)];exact e.get i hi
theorem Wrote.own{h h':AHeap}{b b' es:Nat}{cells:List Value}(k:Wrote h h' b)(c:Own h b' es cells)(hb:b'≠b):Own h' b' es cells:=by
 unfold Own;rw[k.get b' hb];exact c
theorem Ext.lowOK{h h':AHeap}(e:Ext h h')(hl:h.low<=h.next):h'.low<=h'.next:=e.low hl
theorem Ext.freshed(h:AHeap):Ext h h.freshed:=⟨Nat.le_refl _,fun _=>Nat.le_refl _,Nat.min_le_right _ _,fun _ _=>rfl⟩
theorem freshed_low(h:AHeap):h.freshed.low<=h.freshed.next:=Nat.le_refl _
theorem lowered_freshed{h:AHeap}(hl:h.low<=h.next):h.freshed.lowered h.low=h:=by
 unfold AHeap.lowered AHeap.freshed;have:Nat.min h.low h.next=h.low:=Nat.min_eq_left hl;simp only[this]
theorem wrote_freshed(h:AHeap):Nat.blt h.freshed.low h.next=false:=blt_false (Nat.le_refl _)
theorem set_take_drop{α:Type}(l:List α)(i:Nat)(x:α)(hi:i<l.length):l.take i++([x]++l.drop (i+1))=l.set i x:=by
 rw[List.set_eq_take_append_cons_drop,if_pos hi];simp
theorem Own.setInt{h:AHeap}{b es:Nat}{k:IntKind}{l:List Int}(c:Own h b es (l.map (.int k))){i:Nat}(hi:i<l.length)(x:Int):∃h',h.write b i [.int k x]=some h'/\Own h' b es ((l.set i x).map (.int k))/\Wrote h h' b:=by
 obtain⟨h',h1,h2,h3⟩:=c.write (o:=i) (vs:=[.int k x]) (by simp;omega);refine⟨h',h1,?_,h3⟩;rw[List.map_set,<-set_take_drop _ _ _ (by simpa using hi)];exact h2
theorem Own.getInt{h:AHeap}{b es:Nat}{k:IntKind}{l:List Int}(c:Own h b es (l.map (.int k))){i:Nat}(hi:i<l.length):h.readG ⟨b,i,none⟩ 1=some [.int k (l.getD i 0)]:=by
 rw[c.readG (by simp;omega),take_one _ i (.int k (l.getD i 0)) (by simp[hi])]
def Apd(h:AHeap)(es:Nat)(a:Option Addr)(n c:Nat)(cells:List Value):Prop:=
 (a=none/\n=0/\c=0/\cells=[])\/(∃b,a=some ⟨b,0,none⟩/\c=someCap es n/\b<h.next/\cells.length=n*es/\Own h b es cells)
theorem Apd.nil(h:AHeap)(es:Nat):Apd h es none 0 0 []:=.inl ⟨rfl,rfl,rfl,rfl⟩
theorem Apd.cells{h:AHeap}{es:Nat}{a:Option Addr}{n c:Nat}{cells:List Value}(p:Apd h es a n c cells):Cells h a n es cells:=by
 rcases p with ⟨rfl,rfl,rfl,rfl⟩|⟨b,rfl,rfl,hb,hl,ho⟩
 ·exact⟨rfl,rfl⟩
 ·exact⟨rfl,hb,by rw[ho.readG (by omega)];simp[<-hl]⟩
theorem Apd.ext{h h':AHeap}{es:Nat}{a:Option Addr}{n c:Nat}{cells:List Value}(p:Apd h es a n c cells)(k:Ext h h'):Apd h' es a n c cells:=by
 rcases p with ⟨rfl,rfl,rfl,rfl⟩|⟨b,rfl,rfl,hb,hl,ho⟩
 ·exact .nil _ _
 ·exact .inr ⟨b,rfl,rfl,Nat.lt_of_lt_of_le hb k.next,hl,ho.ext k hb⟩
def From(m:Nat)(a:Option Addr):Prop:=∀ad,a=some ad->m<=ad.block
theorem From.none(m:Nat):From m none:=fun _ h=>by cases h
structure SliceT(P:Program)(t e es:Nat):Prop where
 und:P.underlying t=some (.slice e)
 size:sizeT P e=some es
 bytes:∃by_,bytesT P e=some by_/\by_<=16384
 zero:∃z,zeroT P e=some z/\z.cells.toList.length=es
theorem append_ok{P:Program}{t t2 e es:Nat}(hT:SliceT P t e es)(ht2:P.underlying t2=some (.slice e)){h:AHeap}{a a2:Option Addr}{n c n2 c2:Nat}{cells news:List Value}(hp:Apd h es a n c cells)(hs:Cells h a2 n2 es news)(hok:cells.all cellOK=true)(hok2:news.all cellOK=true)(hn2:0<n2)(hbig:n+n2<=1000000) :
  ∃a' c' h',appendH P h [t,t2] [.slice a n c,.slice a2 n2 c2]=some (.slice a' (n+n2) c',h')/\Apd h' es a' (n+n2) c' (cells++news)/\(∀h0,Ext h0 h->From h0.next a->Ext h0 h'/\From h0.next a'):=by
 obtain⟨by_,hby,hby2⟩:=hT.bytes;obtain⟨z,hz,hz2⟩:=hT.zero;have hnl:=hs.length;have hnews:newsA P h e es false (.slice a2 n2 c2)=some (n2,news):=by
  unfold newsA;simp only[cond_false];cases a2 with
  |none=>obtain⟨rfl,rfl⟩:=hs;omega
  |some ad=>
   obtain⟨h1,h2,h3⟩:=hs;simp only[h3]
 unfold appendH;simp only[hT.und,hT.size,hby,ht2,hz,isIntDesc,hnews];rcases hp with ⟨rfl,rfl,rfl,rfl⟩|⟨b,rfl,rfl,hb,hl,ho⟩
 ·have e1:capLow 0=0:=rfl
  rw[e1,ble_false (by omega)];simp only[cond_false];rw[ble_true (show 0+n2<=1073741824 by omega),ble_true hby2,hok2,hz2,hnl];simp only[Bool.and_self,Nat.beq_refl,cond_true];refine⟨_,_,_,rfl,.inr ⟨h.next,rfl,rfl,by simp[AHeap.push],by simp[hnl],?_⟩,fun h0 e0 f0=>⟨e0.trans (.push _ _ _),?_⟩⟩
  ·rw[List.nil_append];exact Own.push _ _ _
  ·intro ad had
   cases had;exact e0.next
 ·have e1:capLow (someCap es n)=n:=capLow_some (by unfold slack;omega)
  rw[e1,ble_false (by omega)];simp only[cond_false];rw[ble_true (show n+n2<=1073741824 by omega),ble_true hby2,hok2,hz2,hnl];simp only[Bool.and_self,Nat.beq_refl,cond_true];have hr:h.readG ⟨b,0,none⟩ (n*es)=some cells:=by rw[ho.readG (by omega)];simp[<-hl]
  simp only[hr];rw[blt_false (someCap_ge es n),hok];simp only[cond_false,cond_true];rw[show h.m.get b=some (.live true es cells)from ho];simp only[Nat.beq_refl,cond_true];refine⟨_,_,_,rfl,.inr ⟨h.next,rfl,rfl,by simp[AHeap.push,AHeap.kill],by simp[hnl,hl,Nat.add_mul],?_⟩,fun h0 e0 f0=>⟨?_,?_⟩⟩
  ·exact Own.push (h.kill b) es _
  ·exact(e0.kill (f0 _ rfl)).trans (.push _ _ _)
  ·intro ad had
   cases had;exact e0.next
theorem take_succ'(l:List Int){i:Int}(h0:0<=i)(h1:i<l.length):l.take (i+1).toNat=l.take i.toNat++[at' l i]:=by
 have e:(i+1).toNat=i.toNat+1:=by omega
 have hi:i.toNat<l.length:=by omega
 rw[e,List.take_add_one,List.getElem?_eq_getElem hi];unfold at';simp[hi]
theorem at'_set(l:List Int){i j:Int}(hi:0<=i)(hj:0<=j)(hl:i<l.length)(x:Int):at' (l.set i.toNat x) j=if j=i then x else at' l j:=by
 unfold at';by_cases e:j=i
 ·subst e;rw[if_pos rfl];simp[show j.toNat<l.length by omega]
 ·rw[if_neg e]
  have:i.toNat≠j.toNat:=by omega
  simp[List.getD_eq_getElem?_getD,List.getElem?_set_ne this]
theorem list_ext'{l m:List Int}(hl:l.length=m.length)(h:∀i:Int,0<=i->i<l.length->at' l i=at' m i):l=m:=by
 apply List.ext_getElem hl;intro i h1 h2;have:=h i (by omega) (by omega);unfold at' at this;simpa[h1,h2]using this
end Go.Sim
namespace Go.Sim
theorem append_keep{P:Program}{t t2 e es:Nat}(hT:SliceT P t e es)(ht2:P.underlying t2=some (.slice e)){h:AHeap}{a a2:Option Addr}{n c n2 c2:Nat}{cells news:List Value}(hp:Apd h es a n c cells)(hs:Cells h a2 n2 es news)(hok:cells.all cellOK=true)(hok2:news.all cellOK=true)(hn2:0<n2)(hbig:n+n2<=1000000) :
  ∃a' c' h',appendH P h [t,t2] [.slice a n c,.slice a2 n2 c2]=some (.slice a' (n+n2) c',h')/\Apd h' es a' (n+n2) c' (cells++news)/\(∀h0,Ext h0 h->From h0.next a->Ext h0 h'/\From h0.next a')/\h.next<=h'.next/\From h.next a'/\∀i,i<h.next->(∀ad,a=some ad->ad.block≠i)->h'.m.get i=h.m.get i:=by
 obtain⟨by_,hby,hby2⟩:=hT.bytes;obtain⟨z,hz,hz2⟩:=hT.zero;have hnl:=hs.length;have hnews:newsA P h e es false (.slice a2 n2 c2)=some (n2,news):=by
  unfold newsA;simp only[cond_false];cases a2 with
  |none=>obtain⟨rfl,rfl⟩:=hs;omega
  |some ad=>
   obtain⟨h1,h2,h3⟩:=hs;simp only[h3]
 unfold appendH;simp only[hT.und,hT.size,hby,ht2,hz,isIntDesc,hnews];rcases hp with ⟨rfl,rfl,rfl,rfl⟩|⟨b,rfl,rfl,hb,hl,ho⟩
 ·have e1:capLow 0=0:=rfl
  rw[e1,ble_false (by omega)];simp only[cond_false];rw[ble_true (show 0+n2<=1073741824 by omega),ble_true hby2,hok2,hz2,hnl];simp only[Bool.and_self,Nat.beq_refl,cond_true];refine⟨_,_,_,rfl,.inr ⟨h.next,rfl,rfl,by simp[AHeap.push],by simp[hnl],?_⟩,fun h0 e0 f0=>⟨e0.trans (.push _ _ _),?_⟩,?_,?_,?_⟩
  ·rw[List.nil_append];exact Own.push _ _ _
  ·intro ad had
   cases had;exact e0.next
  ·exact Nat.le_succ _
  ·intro ad had
   cases had;exact Nat.le_refl _
  ·intro i hi _
   show(h.m.set h.next _).get i=_;rw[Tri.get_set_ne _ _ (by omega)]
 ·have e1:capLow (someCap es n)=n:=capLow_some (by unfold slack;omega)
  rw[e1,ble_false (by omega)];simp only[cond_false];rw[ble_true (show n+n2<=1073741824 by omega),ble_true hby2,hok2,hz2,hnl];simp only[Bool.and_self,Nat.beq_refl,cond_true];have hr:h.readG ⟨b,0,none⟩ (n*es)=some cells:=by rw[ho.readG (by omega)];simp[<-hl]
  simp only[hr];rw[blt_false (someCap_ge es n),hok];simp only[cond_false,cond_true];rw[show h.m.get b=some (.live true es cells)from ho];simp only[Nat.beq_refl,cond_true];refine⟨_,_,_,rfl,.inr ⟨h.next,rfl,rfl,by simp[AHeap.push,AHeap.kill],by simp[hnl,hl,Nat.add_mul],?_⟩,fun h0 e0 f0=>⟨?_,?_⟩,?_,?_,?_⟩
  ·exact Own.push (h.kill b) es _
  ·exact(e0.kill (f0 _ rfl)).trans (.push _ _ _)
  ·intro ad had
   cases had;exact e0.next
  ·exact Nat.le_succ _
  ·intro ad had
   cases had;exact Nat.le_refl _
  ·intro i hi hne
   show((h.m.set b _).set h.next _).get i=_;rw[Tri.get_set_ne _ _ (by omega),Tri.get_set_ne _ _ (hne _ rfl)]
theorem Own.of_get{h h':AHeap}{b es:Nat}{cells:List Value}(c:Own h b es cells)(e:h'.m.get b=h.m.get b):Own h' b es cells:=by
 unfold Own at c ⊢;rw[e];exact c
theorem Apd.of_get{h h':AHeap}{es:Nat}{a:Option Addr}{n c:Nat}{cells:List Value}(p:Apd h es a n c cells)(hn:h.next<=h'.next)(e:∀ad,a=some ad->ad.block<h.next->h'.m.get ad.block=h.m.get ad.block):Apd h' es a n c cells:=by
 rcases p with ⟨rfl,rfl,rfl,rfl⟩|⟨b,rfl,rfl,hb,hl,ho⟩
 ·exact .nil _ _
 ·exact .inr ⟨b,rfl,rfl,Nat.lt_of_lt_of_le hb hn,hl,ho.of_get (e _ rfl hb)⟩
theorem Apd.lt{h:AHeap}{es:Nat}{a:Option Addr}{n c:Nat}{cells:List Value}(p:Apd h es a n c cells):∀ad,a=some ad->ad.block<h.next:=by
 rcases p with ⟨rfl,rfl,rfl,rfl⟩|⟨b,rfl,rfl,hb,hl,ho⟩
 ·intro ad h;cases h
 ·intro ad h;cases h;exact hb
end Go.Sim
namespace Go.Sim
def Own2(h:AHeap)(es b n c:Nat)(cells:List Value):Prop:=Own h b es cells/\b<h.next/\cells.length=n*es/\((c=0/\n=0)\/c=someCap es n)
theorem append_any{P:Program}{t t2 e es:Nat}(hT:SliceT P t e es)(ht2:P.underlying t2=some (.slice e)){h:AHeap}{b n c n2 c2:Nat}{a2:Option Addr}{cells news:List Value}(hp:Own2 h es b n c cells)(hs:Cells h a2 n2 es news)(hok:cells.all cellOK=true)(hok2:news.all cellOK=true)(hbig:n+n2<=1000000) :
  ∃b' c' h',appendH P h [t,t2] [.slice (some ⟨b,0,none⟩) n c,.slice a2 n2 c2]=some (.slice (some ⟨b',0,none⟩) (n+n2) c',h')/\Own2 h' es b' (n+n2) c' (cells++news)/\(∀h0,Ext h0 h->h0.next<=b->Ext h0 h'/\h0.next<=b'):=by
 obtain⟨ho,hb,hl,hc⟩:=hp;obtain⟨by_,hby,hby2⟩:=hT.bytes;obtain⟨z,hz,hz2⟩:=hT.zero;have hnl:=hs.length;have hnews:newsA P h e es false (.slice a2 n2 c2)=some (n2,news):=by
  unfold newsA;simp only[cond_false];cases a2 with
  |none=>obtain⟨rfl,rfl⟩:=hs;simp
  |some ad=>
   obtain⟨h1,h2,h3⟩:=hs;simp only[h3]
 have hcl:capLow c=n:=by
  rcases hc with ⟨rfl,rfl⟩|rfl
  ·rfl
  ·exact capLow_some (by unfold slack;omega)
 unfold appendH;simp only[hT.und,hT.size,hby,ht2,hz,isIntDesc,hnews];rw[hcl];by_cases h0:n2=0
 ·subst h0
  have:news=[]:=by simpa using hnl
  subst this;obtain⟨h',hw,ho',hw2⟩:=ho.write (o:=n*es) (vs:=[]) (by simp;omega);have hwg:h.writeG (aadd ⟨b,0,none⟩ (n*es)) []=some h':=by
   unfold AHeap.writeG aadd;simp only[List.all_nil,cond_true,Nat.zero_add];exact hw
  rw[ble_true (show n+0<=n by omega)];simp only[cond_true,hwg];have e2:cells.take (n*es)++([]++cells.drop (n*es+([]:List Value).length))=cells:=by simp
  rw[e2]at ho';exact⟨b,c,h',rfl,⟨by simpa using ho',by rw[hw2.next];exact hb,by simpa using hl,hc⟩,fun h0 e0 hb0=>⟨hw2.ext e0 hb0,hb0⟩⟩
 ·rw[ble_false (by omega)]
  simp only[cond_false];rw[ble_true (show n+n2<=1073741824 by omega),ble_true hby2,hok2,hz2,hnl];simp only[Bool.and_self,Nat.beq_refl,cond_true];have hr:h.readG ⟨b,0,none⟩ (n*es)=some cells:=by rw[ho.readG (by omega)];simp[<-hl]
  simp only[hr];rcases hc with ⟨rfl,rfl⟩|rfl
  ·rw[blt_true (show 0<slack by unfold slack;omega),hok]
   simp only[cond_true];refine⟨_,_,_,rfl,⟨Own.push _ _ _,by simp[AHeap.push],by simp[hl,hnl],.inr rfl⟩,fun h0 e0 hb0=>⟨e0.trans (.push _ _ _),e0.next⟩⟩
  ·rw[blt_false (someCap_ge es n),hok]
   simp only[cond_false,cond_true];rw[show h.m.get b=some (.live true es cells)from ho];simp only[Nat.beq_refl,cond_true];refine⟨_,_,_,rfl,⟨Own.push (h.kill b) es _,by simp[AHeap.push,AHeap.kill],by simp[hl,hnl,Nat.add_mul],.inr rfl⟩,fun h0 e0 hb0=>⟨(e0.kill hb0).trans (.push _ _ _),?_⟩⟩;exact e0.next
end Go.Sim
namespace Go.Sim
open Go.RowKit
variable{P:Program}
def WN(P:Program)(nt:Nat)(c:Code)(s:St)(Q:Exit->St->Prop):Prop:=
 ∀(J:Inj) (w:World) (a:Act),HR J s w->ER J s a->nt<=a.tmps.size->c.wpIn (Wd none) 0 P (fun e a' w'=>∃s',Q e s'/\PostM J s w a s' a' w') a w
theorem WN.mono{nt:Nat}{c:Code}{s:St}{Q Q':Exit->St->Prop}(h:WN P nt c s Q)(hq:∀e s',Q e s'->Q' e s'):WN P nt c s Q':=
 fun J w a hR hE hn=>wpIn_mono (h J w a hR hE hn) (fun e a' w' ⟨s',q,p⟩=>⟨s',hq e s' q,p⟩)
theorem WN.det{run:FuncId->Nat->Code->St->Option (Exit×St)}(hr:RunOK P run){f:FuncId}{nt:Nat}{c:Code}{s s':St}{x:Exit}{Q:Exit->St->Prop}(h:run f nt c s=some (x,s'))(hq:Q x s'):WN P nt c s Q:=
 fun J w a hR hE hn=>wpIn_mono (hr f nt c s x s' h none (.inl rfl) J w a hR hE hn) (fun e a' w' ⟨he,p⟩=>⟨s',by rw[he];exact hq,p⟩)
theorem WN.seq{nt:Nat}{c d:Code}{s:St}{Q:Exit->St->Prop}(h:WN P nt c s (fun e s1=>match e with | .normal=>WN P nt d s1 Q|e=>Q e s1)):WN P nt (.seq c d) s Q:=by
 intro J w a hR hE hn;refine wpIn_seq (wpIn_mono (h J w a hR hE hn) ?_);rintro e a1 w1 ⟨s1,q,J1,q1,q2,q3,q4,q5⟩;cases e with
 |normal=>
  show d.wpIn (Wd none) 0 P _ a1 w1;refine wpIn_mono (q J1 w1 a1 q1.hr q2 (by rw[q3];exact hn)) ?_;rintro e a2 w2 ⟨s2,r,p⟩;exact⟨s2,r,PostM.trans q1 q3 q4 q5 p⟩
 |_=>exact then_other (by simp) ⟨s1,q,J1,q1,q2,q3,q4,q5⟩
theorem WN.does{g : FuncId}{fn : Func}{c : Code}(hfn : P.funcs[g]? = some fn)(hb : fn.body = some c)(hname : (fn.name == "runtime.NumGoroutine") = false){args : List Value}{h : AHeap}{R : Value → AHeap → Prop}
  (hw:WN P fn.ntmps c { env:=argsEnv args 0 .leaf,kn:=0,K:=.leaf,h:=h } (fun e s'=>(e=.normal\/e=.ret)/\∃v h',endA P fn s'=some (v,h')/\R v h'))
  {G:Nat->Option Loc} {w:World} {cargs:List Value} (hR:HR ⟨G,fun _=>none⟩ (St0 h) w) (hA:VGs G args cargs) :
  Does P g cargs.toArray w (fun c w'=>∃v h' G',R v h'/\VG G' v c/\Good ⟨G,fun _=>none⟩ (St0 h) w ⟨G',fun _=>none⟩ (St0 h') w'/\Adds (h.next<=·) G G'):=by
 left;refine⟨callFunc_enter hfn (by rw[hb];rfl) hname,(callsIn_wide (n:=0)).1 (callsIn_of_wp_marks hfn hb trivial ?_)⟩;have hR':HR ⟨G,fun _=>none⟩ { env:=argsEnv args 0 .leaf,kn:=0,K:=.leaf,h:=h } w:=hR.env _;have hE':ER ⟨G,fun _=>none⟩ { env:=argsEnv args 0 .leaf,kn:=0,K:=.leaf,h:=h } { tmps:=cargs.toArray++Array.replicate (fn.ntmps-cargs.toArray.size) undef,defers:=[] }:=by
  intro t u hu;simp only[argsEnv_get,Nat.zero_le,true_and,Nat.zero_add,Nat.sub_zero]at hu;by_cases ht:t<args.length
  ·rw[if_pos ht]at hu
   have ht':t<cargs.length:=by rw[<-hA.1];exact ht
   refine⟨by simp;omega,?_⟩;have:(cargs.toArray++Array.replicate (fn.ntmps-cargs.toArray.size) undef).getD t undef=cargs[t]:=by
    simp[Array.getD,ht',Array.getElem_append,show t<cargs.length+(fn.ntmps-cargs.length) by omega]
   rw[this];exact .glob _ _ (hA.2 t u _ hu (by simp[ht']))
  ·rw[if_neg ht]at hu;simp[Tri.get]at hu
 have hrun':=hw _ w _ hR' hE' (by simp;omega);refine wpIn_mono (F:=Fence.wide) hrun' ?_;rintro e a' w' ⟨s',⟨hx,v,h',hend,hRv⟩,J',q1,q2,q3,⟨Ds,q4,q6,q7⟩,q5⟩;simp only[List.append_nil]at q4;unfold endA at hend;split at hend
 ·rename_i l hl
  cases hn:l.all noLoc with
  |false=>rw[hn]at hend;simp at hend
  |true=>
   rw[hn]at hend;simp only[cond_true,oi,pj]at hend;obtain⟨rfl,rfl⟩:=hend;have hpost:LeavesInM Fence.wide 0 P fn a'.tmps (fun e w'=>∃c,e=.returned c/\∃v h' G',R v h'/\VG G' v c/\Good ⟨G,fun _=>none⟩ (St0 h) w ⟨G',fun _=>none⟩ (St0 h') w'/\Adds (h.next<=·) G G') a'.defers .returning w':=by
    rw[q4];refine leaves_marks (fun w''=>Good ⟨G,fun _=>none⟩ { env:=argsEnv args 0 .leaf,kn:=0,K:=.leaf,h:=h } w J' s' w'') (fun w'' hG=>?_) Ds w' q6 (fun D hD=>(q7 D hD).2.1) q1 (fun w'' D hG hD=>hG.putD (q7 D hD).1 (q7 D hD).2.2.1 (q7 D hD).2.2.2 _);obtain⟨cv,r1,r2⟩:=results_sim hG.hr q2 hl hn;exact⟨cv,r1,cv,rfl,_,_,J'.g,hRv,r2,hG.bare,q5⟩
   rcases hx with rfl|rfl<;>exact hpost
 ·cases hend
structure WNs(P:Unit->Program)(nt:Nat)(c:Code)(s:SS)(Q:Exit->SS->Prop):Prop where
 go:∀t,Le s t->t.h.low<=t.h.next->WN (P ()) nt c t (fun e t'=>∃s',Le s' t'/\t'.h.low<=t'.h.next/\Q e s')
variable{P:Unit->Program}
theorem WNs.run{H : Hint}{F : Prims}{A : Atoms}(hA : AOK P H F A)(V : Live)(hm : (P ()).follows .mixedOrders = true)(hF : CallOK (P ()) F)(hname : ∀ (g : FuncId) (fn : Func), (P ()).funcs[g]? = some fn → (fn.name == "runtime.NumGoroutine") = false)
  {f:FuncId} {fn:Func} {c0:Code} (hfn:(P ()).funcs[f]?=some fn) (hc0:fn.body=some c0) {c:Code} (hl:loopsOf c=[]) (hr:rangesOf c=[]) {s:SS} {Q:Exit->SS->Prop} (h:wpS P H A V f fn.ntmps c s Q):WNs P fn.ntmps c s Q:=by
 refine⟨?_⟩;intro t hs hlow;have e:=hA.eq;subst e;obtain⟨x,t',s',⟨n,hrun⟩,hs',hq⟩:=wpS_ok hA.keep hfn hc0 c s t Q ⟨(fun b hb=>by rw[hl]at hb;simp at hb),(fun b hb=>by rw[hr]at hb;simp at hb)⟩ hs hlow h;have hk:=(execA_keep hA.keep n).1 _ _ _ _ _ _ hrun;exact WN.det (execA_ok hm hF hA.keep hname n).1 hrun ⟨s',hs',by have h1:=hk.next;have h2:=hk.low;omega,hq⟩
theorem WNs.seq{nt:Nat}{c d:Code}{s:SS}{Q:Exit->SS->Prop}(h:WNs P nt c s (fun e s1=>match e with | .normal=>WNs P nt d s1 Q|e=>Q e s1)):WNs P nt (.seq c d) s Q:=by
 refine⟨?_⟩;intro t hs hlow;refine WN.seq ((h.go t hs hlow).mono ?_);rintro e t1 ⟨s1,q1,q2,q3⟩;cases e with
 |normal=>exact q3.go t1 q1 q2
 |_=>exact⟨s1,q1,q2,q3⟩
theorem WNs.less{nt:Nat}{c:Code}{s s0:SS}{Q:Exit->SS->Prop}(he:∀i v,lk s0.env i=some v->lk s.env i=some v)(hK:∀i v,lk s0.K i=some v->lk s.K i=some v)(hk:s0.kn=s.kn)(hh:s0.h=s.h)(h:WNs P nt c s0 Q):WNs P nt c s Q:=
 ⟨fun t hs hlow=>h.go t ⟨fun i v hi=>hs.env i v (he i v hi),fun i v hi=>hs.K i v (hK i v hi),by rw[hk];exact hs.kn,by rw[hh];exact hs.h⟩ hlow⟩
theorem lk_mem{α:Type}:∀{l:List (Nat×α)} {i:Nat} {v:α},lk l i=some v->(i,v)∈l
 | [],i,v,h=>by simp[lk]at h
 |p :: l,i,v,h=>by
  rw[lk_cons]at h;by_cases e:p.1=i
  ·rw[if_pos e]at h
   obtain rfl:=Option.some.inj h;subst e;exact List.mem_cons_self
  ·rw[if_neg e]at h
   exact List.mem_cons_of_mem _ (lk_mem h)
theorem WNs.lessE{nt:Nat}{c:Code}{env env0:List (Nat×Value)}{kn:Nat}{K:List (Nat×List Value)}{h:AHeap}{Q:Exit->SS->Prop}(he:∀p∈env0,lk env p.1=some p.2)(hw:WNs P nt c ⟨env0,kn,K,h⟩ Q):WNs P nt c ⟨env,kn,K,h⟩ Q:=
 WNs.less (s0:=⟨env0,kn,K,h⟩) (fun i v hi=>he _ (lk_mem hi)) (fun i v hi=>hi) rfl rfl hw
theorem WNs.does{g : FuncId}{fn : Func}{c : Code}(hfn : (P ()).funcs[g]? = some fn)(hb : fn.body = some c)(hname : (fn.name == "runtime.NumGoroutine") = false){args : List Value}{h : AHeap}{i : Tmp}(hres : fn.results.toList = [.tmp i]){R : Value → AHeap → Prop}(hl : h.low ≤ h.next)
  (hw:WNs P fn.ntmps c ⟨argsL args 0 [],0,[],h⟩ (fun e s'=>(e=.normal\/e=.ret)/\∃v,lk s'.env i=some v/\noLoc v=true/\R v s'.h))
  {G:Nat->Option Loc} {w:World} {cargs:List Value} (hR:HR ⟨G,fun _=>none⟩ (St0 h) w) (hA:VGs G args cargs) :
  Does (P ()) g cargs.toArray w (fun c w'=>∃v h' G',R v h'/\VG G' v c/\Good ⟨G,fun _=>none⟩ (St0 h) w ⟨G',fun _=>none⟩ (St0 h') w'/\Adds (h.next<=·) G G'):=by
 refine WN.does hfn hb hname ?_ hR hA;have e:=argsL_E args 0 [];simp only[E]at e;rw[e];refine(hw.go _ (Le_refl ⟨argsL args 0 [],0,[],h⟩) hl).mono ?_;rintro x t' ⟨s',q1,q2,hx,v,q3,q4,q5⟩;refine⟨hx,v,s'.h,?_,q5⟩;unfold endA;rw[hres];simp only[resA,q1.env _ _ q3];simp only[List.all_cons,q4,List.all_nil,Bool.and_true,cond_true,resultA,q1.h]
