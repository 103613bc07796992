import Derived.Test.YtdpbiegfljmhmaaGreatSmG
import Derived.Test.YtdpbiegfljmhmaaGreatSimD
import Derived.Lib.Overlaps
set_option linter.unusedSimpArgs false
set_option linter.unusedVariables false
namespace Go.cV
theorem br{c:Bool}{A B:Prop}(p:Prop)[Decidable p](hc:c=decide p)(h1:p->A)(h2:¬p->B):cond c A B:=by
 subst hc;by_cases h:p
 ·simp only[h,decide_true,cond_true];exact h1 h
 ·simp only[h,decide_false,cond_false];exact h2 h
structure Ext(h h':af):Prop where
 next:h.next<=h'.next
 low:h.low<=h.next->h'.low<=h'.next
 wh:Nat.min h.low h.next<=h'.low
 get:∀b,b<h.next->h'.m.get b=h.m.get b
theorem Ext.refl(h:af):Ext h h:=⟨Nat.le_refl _,fun h=>h,Nat.min_le_left _ _,fun _ _=>rfl⟩
theorem Ext.trans{a b c:af}(h:Ext a b)(k:Ext b c):Ext a c:=
 ⟨Nat.le_trans h.next k.next,fun l=>k.low (h.low l),by
  have h1:=h.wh;have h2:=k.wh;have h3:=h.next;have:Nat.min a.low a.next<=a.next:=Nat.min_le_right _ _;have h4:Nat.min a.low a.next<=Nat.min b.low b.next:=Nat.le_min.2 ⟨h1,om⟩;omega,fun i hi=>(k.get i (Nat.lt_of_lt_of_le hi h.next)).trans (h.get i hi)⟩
theorem Ext.push(h:af)(es:Nat)(cs:List Value):Ext h (h.push es cs):=
 ⟨by simp[af.push],fun l=>by simp only[af.push];omega,by simp only[af.push];exact Nat.min_le_left _ _,fun b hb=>by simp only[af.push];rw[cW.aT _ _ om]⟩
theorem Ext.aH(h:af)(n:Nat):Ext h (h.aH n):=
 ⟨by simp[af.aH],fun l=>by simp only[af.aH];omega,by simp only[af.aH];exact Nat.min_le_left _ _,fun b hb=>rfl⟩
theorem Ext.write{h h1 h':af}(k:Ext h h1){b o:Nat}{vs:List Value}(hb:h.next<=b)(hw:h1.write b o vs=some h'):Ext h h':=by
 have kb:=bK.write (B:=0) hw;unfold af.write at hw;split at hw
 ·split at hw
  ·simp only[oi]at hw
   subst hw;refine⟨k.next,fun l=>?_,?_,fun i hi=>?_⟩
   ·have:=k.low l
    have h2:Nat.min h1.low b<=h1.low:=Nat.min_le_left _ _;show Nat.min h1.low b<=h1.next;omega
   ·have:=k.wh
    show Nat.min h.low h.next<=Nat.min h1.low b;have h2:Nat.min h.low h.next<=h.next:=Nat.min_le_right _ _;exact Nat.le_min.2 ⟨this,om⟩
   ·show(h1.m.set b _).get i=_
    rw[cW.aT _ _ om];exact k.get i hi
  ·cases hw
 ·cases hw
theorem Ext.kill{h h1:af}(k:Ext h h1){b:Nat}(hb:h.next<=b):Ext h (h1.kill b):=by
 refine⟨k.next,fun l=>?_,?_,fun i hi=>?_⟩
 ·have:=k.low l
  have h2:Nat.min h1.low b<=h1.low:=Nat.min_le_left _ _;show Nat.min h1.low b<=h1.next;omega
 ·have:=k.wh
  show Nat.min h.low h.next<=Nat.min h1.low b;have h2:Nat.min h.low h.next<=h.next:=Nat.min_le_right _ _;exact Nat.le_min.2 ⟨this,om⟩
 ·show(h1.m.set b _).get i=_
  rw[cW.aT _ _ om];exact k.get i hi
theorem Ext.cells{h h':af}(k:Ext h h'){b:Nat}(hb:b<h.next):h'.cells? b=h.cells? b:=by
 unfold af.cells?;rw[k.get b hb]
def Cells(h:af)(a:Option Addr)(n es:Nat)(cells:List Value):Prop:=
 match a with
 |none=>n=0/\cells=[]
 |some ad=>ad.spot=none/\ad.block<h.next/\h.aN ad (n*es)=some cells
theorem Cells.ext{h h':af}{a:Option Addr}{n es:Nat}{cells:List Value}(c:Cells h a n es cells)(k:Ext h h'):Cells h' a n es cells:=by
 cases a with
 |none=>exact c
 |some ad=>
  obtain⟨h1,h2,h3⟩:=c;refine⟨h1,Nat.lt_of_lt_of_le h2 k.next,?_⟩;unfold af.aN at h3 ⊢;rw[k.cells h2];exact h3
theorem Cells.length{h:af}{a:Option Addr}{n es:Nat}{cells:List Value}(c:Cells h a n es cells):cells.length=n*es:=by
 cases a with
 |none=>obtain⟨rfl,rfl⟩:=c;simp
 |some ad=>
  obtain⟨h1,h2,h3⟩:=c;unfold af.aN at h3;rw[h1]at h3;simp only[]at h3;split at h3
  ·exact(nT h3).1
  ·cases h3
theorem ot{cs:List Value}{off n:Nat}{l:List Value}(h:(cs.drop off).take n=l)(hl:l.length=n):ke cs off n=some l:=by
 unfold ke;simp only[h,hl];simp
theorem D8{cs:List Value}{off n:Nat}{l:List Value}(h:ke cs off n=some l):(cs.drop off).take n=l/\l.length=n:=by
 have h1:=(nT h).1;unfold ke at h;obtain⟨_,h2⟩:=mc h;exact⟨h2,h1⟩
theorem Cells.at{h:af}{a:Option Addr}{n es:Nat}{cells:List Value}(c:Cells h a n es cells){i m:Nat}(hi:i+m<=n*es)(hm:0<m):∃b o,a=some ⟨b,o,none⟩/\b<h.next/\h.aN ⟨b,o+i,none⟩ m=some ((cells.drop i).take m):=by
 have hlen:=c.length;cases a with
 |none=>obtain⟨rfl,rfl⟩:=c;simp at hi;omega
 |some ad=>
  obtain⟨h1,h2,h3⟩:=c;obtain⟨b,o,sp⟩:=ad;simp only at h1;subst h1;refine⟨b,o,rfl,h2,?_⟩;unfold af.aN at h3 ⊢;simp only[]at h3 ⊢;split at h3
  ·rename_i cs wv
   obtain⟨e1,e2⟩:=D8 h3;refine ot ?_ ?_
   ·subst e1
    rw[List.drop_take,List.take_take,List.drop_drop,Nat.min_eq_left om]
   ·simp only[List.length_take,List.length_drop];omega
  ·cases h3
theorem take_one{α:Type}(l:List α)(i:Nat)(x:α)(h:l[i]?=some x):(l.drop i).take 1=[x]:=by
 obtain⟨hi,rfl⟩:=List.getElem?_eq_some_iff.1 h;rw[List.drop_eq_getElem_cons hi,List.take_succ_cons,List.take_zero]
def dZ(l:List Int)(i:Int):Int:=l.getD i.toNat 0
theorem wrap64{x:Int}(h1:-9223372036854775808<=x)(h2:x<9223372036854775808):IntKind.wrap .i64 x=x:=by
 unfold IntKind.wrap;simp[IntKind.bits,IntKind.signed,IntKind.min,IntKind.max];omega
theorem VU{x:Int}(h1:0<=x)(h2:x<256):IntKind.wrap .u8 x=x:=by
 unfold IntKind.wrap;simp[IntKind.bits,IntKind.signed,IntKind.min,IntKind.max];omega
end Go.cV
namespace Go.cV
def ct(h:af)(b es:Nat)(cells:List Value):Prop:=h.m.get b=some (.live true es cells)
theorem ct.push(h:af)(es:Nat)(cs:List Value):ct (h.push es cs) h.next es cs:=by
 unfold ct af.push;simp only[];rw[cW.gY]
theorem ct.putAt(h:af)(id es:Nat)(cs:List Value):ct (h.putAt id es cs) id es cs:=by
 unfold ct af.putAt;simp only[];rw[cW.gY]
theorem ct.ext{h h':af}{b es:Nat}{cells:List Value}(c:ct h b es cells)(k:Ext h h')(hb:b<h.next):ct h' b es cells:=by
 unfold ct;rw[k.get b hb];exact c
theorem ct.aN{h:af}{b es:Nat}{cells:List Value}(c:ct h b es cells){o n:Nat}(hn:o+n<=cells.length):h.aN ⟨b,o,none⟩ n=some ((cells.drop o).take n):=by
 unfold af.aN af.cells?;simp only[];rw[show h.m.get b=some (.live true es cells)from c];exact ot rfl (by simp only[List.length_take,List.length_drop];omega)
structure ku(h h':af)(b:Nat):Prop where
 next:h'.next=h.next
 low:h'.low=Nat.min h.low b
 get:∀b',b'≠b->h'.m.get b'=h.m.get b'
theorem ct.write{h:af}{b es:Nat}{cells:List Value}(c:ct h b es cells){o:Nat}{vs:List Value}(hn:o+vs.length<=cells.length):∃h',h.write b o vs=some h'/\ct h' b es (cells.take o++(vs++cells.drop (o+vs.length)))/\ku h h' b:=by
 refine⟨{ next:=h.next,low:=Nat.min h.low b,m:=h.m.set b (.live true es (cells.take o++(vs++cells.drop (o+vs.length)))) },?_,?_,rfl,rfl,fun b' vr=>?_⟩
 ·unfold af.write
  rw[show h.m.get b=some (.live true es cells)from c];simp only[mM];rw[bz hn];rfl
 ·unfold ct;simp only[];rw[cW.gY]
 ·simp only[];rw[cW.aT _ _ (fun e=>vr e.symm)]
theorem ku.ext{h0 h h':af}{b:Nat}(k:ku h h' b)(e:Ext h0 h)(hb:h0.next<=b):Ext h0 h':=by
 refine⟨by rw[k.next];exact e.next,fun l=>?_,?_,fun i hi=>?_⟩
 ·have:=e.low l
  rw[k.low,k.next];have h2:Nat.min h.low b<=h.low:=Nat.min_le_left _ _;omega
 ·have:=e.wh
  rw[k.low];have h2:Nat.min h0.low h0.next<=h0.next:=Nat.min_le_right _ _;exact Nat.le_min.2 ⟨this,om⟩
 ·rw[k.get i om];exact e.get i hi
theorem ku.own{h h':af}{b b' es:Nat}{cells:List Value}(k:ku h h' b)(c:ct h b' es cells)(hb:b'≠b):ct h' b' es cells:=by
 unfold ct;rw[k.get b' hb];exact c
theorem Ext.aD{h h':af}(e:Ext h h')(hl:h.low<=h.next):h'.low<=h'.next:=e.low hl
theorem Ext.dO(h:af):Ext h h.dO:=⟨Nat.le_refl _,fun _=>Nat.le_refl _,Nat.min_le_right _ _,fun _ _=>rfl⟩
theorem D9(h:af):h.dO.low<=h.dO.next:=Nat.le_refl _
theorem wi{h:af}(hl:h.low<=h.next):h.dO.aB h.low=h:=by
 unfold af.aB af.dO;have:Nat.min h.low h.next=h.low:=Nat.min_eq_left hl;simp only[this]
theorem Af(h:af):Nat.blt h.dO.low h.next=false:=cJ (Nat.le_refl _)
theorem Ag{α:Type}(l:List α)(i:Nat)(x:α)(hi:i<l.length):l.take i++([x]++l.drop (i+1))=l.set i x:=by
 rw[List.set_eq_take_append_cons_drop,if_pos hi];simp
theorem ct.setInt{h:af}{b es:Nat}{k:IntKind}{l:List Int}(c:ct h b es (l.map (.int k))){i:Nat}(hi:i<l.length)(x:Int):∃h',h.write b i [.int k x]=some h'/\ct h' b es ((l.set i x).map (.int k))/\ku h h' b:=by
 obtain⟨h',h1,h2,h3⟩:=c.write (o:=i) (vs:=[.int k x]) (by simp;omega);refine⟨h',h1,?_,h3⟩;rw[List.map_set,<-Ag _ _ _ (by simpa using hi)];exact h2
theorem ct.getInt{h:af}{b es:Nat}{k:IntKind}{l:List Int}(c:ct h b es (l.map (.int k))){i:Nat}(hi:i<l.length):h.aN ⟨b,i,none⟩ 1=some [.int k (l.getD i 0)]:=by
 rw[c.aN (by simp;omega),take_one _ i (.int k (l.getD i 0)) (by simp[hi])]
def mT(h:af)(es:Nat)(a:Option Addr)(n c:Nat)(cells:List Value):Prop:=
 (a=none/\n=0/\c=0/\cells=[])\/(∃b,a=some ⟨b,0,none⟩/\c=az es n/\b<h.next/\cells.length=n*es/\ct h b es cells)
theorem mT.nil(h:af)(es:Nat):mT h es none 0 0 []:=.inl ⟨rfl,rfl,rfl,rfl⟩
theorem mT.cells{h:af}{es:Nat}{a:Option Addr}{n c:Nat}{cells:List Value}(p:mT h es a n c cells):Cells h a n es cells:=by
 rcases p with ⟨rfl,rfl,rfl,rfl⟩|⟨b,rfl,rfl,hb,hl,ho⟩
 ·exact⟨rfl,rfl⟩
 ·exact⟨rfl,hb,by rw[ho.aN om];simp[<-hl]⟩
theorem mT.ext{h h':af}{es:Nat}{a:Option Addr}{n c:Nat}{cells:List Value}(p:mT h es a n c cells)(k:Ext h h'):mT h' es a n c cells:=by
 rcases p with ⟨rfl,rfl,rfl,rfl⟩|⟨b,rfl,rfl,hb,hl,ho⟩
 ·exact .nil _ _
 ·exact .inr ⟨b,rfl,rfl,Nat.lt_of_lt_of_le hb k.next,hl,ho.ext k hb⟩
def jm(m:Nat)(a:Option Addr):Prop:=∀ad,a=some ad->m<=ad.block
theorem jm.none(m:Nat):jm m none:=fun _ h=>by cases h
structure gA(P:Program)(t e es:Nat):Prop where
 yE:P.underlying t=some (.slice e)
 size:bY P e=some es
 bytes:∃by_,pC P e=some by_/\by_<=16384
 zero:∃z,iv P e=some z/\z.cells.toList.length=es
theorem AU{P:Program}{t t2 e es:Nat}(hT:gA P t e es)(JG:P.underlying t2=some (.slice e)){h:af}{a a2:Option Addr}{n c n2 c2:Nat}{cells news:List Value}(hp:mT h es a n c cells)(hs:Cells h a2 n2 es news)(fF:cells.all aF=true)(rH:news.all aF=true)(Ah:0<n2)(uE:n+n2<=1000000) :
  ∃a' c' h',cQ P h [t,t2] [.slice a n c,.slice a2 n2 c2]=some (.slice a' (n+n2) c',h')/\mT h' es a' (n+n2) c' (cells++news)/\(∀h0,Ext h0 h->jm h0.next a->Ext h0 h'/\jm h0.next a'):=by
 obtain⟨by_,rN,nV⟩:=hT.bytes;obtain⟨z,hz,zO⟩:=hT.zero;have ta:=hs.length;have gS:jK P h e es false (.slice a2 n2 c2)=some (n2,news):=by
  unfold jK;simp only[cond_false];cases a2 with
  |none=>obtain⟨rfl,rfl⟩:=hs;omega
  |some ad=>
   obtain⟨h1,h2,h3⟩:=hs;simp only[h3]
 unfold cQ;simp only[hT.yE,hT.size,rN,JG,hz,cZ,gS];rcases hp with ⟨rfl,rfl,rfl,rfl⟩|⟨b,rfl,rfl,hb,hl,ho⟩
 ·have e1:cO 0=0:=rfl
  rw[e1,ft om];simp only[cond_false];rw[bz (show 0+n2<=1073741824 by omega),bz nV,rH,zO,ta];simp only[Bool.and_self,Nat.beq_refl,cond_true];refine⟨_,_,_,rfl,.inr ⟨h.next,rfl,rfl,by simp[af.push],by simp[ta],?_⟩,fun h0 e0 f0=>⟨e0.trans (.push _ _ _),?_⟩⟩
  ·rw[List.nil_append];exact ct.push _ _ _
  ·intro ad dc
   cases dc;exact e0.next
 ·have e1:cO (az es n)=n:=cA (by unfold aS;omega)
  rw[e1,ft om];simp only[cond_false];rw[bz (show n+n2<=1073741824 by omega),bz nV,rH,zO,ta];simp only[Bool.and_self,Nat.beq_refl,cond_true];have hr:h.aN ⟨b,0,none⟩ (n*es)=some cells:=by rw[ho.aN om];simp[<-hl]
  simp only[hr];rw[cJ (dB es n),fF];simp only[cond_false,cond_true];rw[show h.m.get b=some (.live true es cells)from ho];simp only[Nat.beq_refl,cond_true];refine⟨_,_,_,rfl,.inr ⟨h.next,rfl,rfl,by simp[af.push,af.kill],by simp[ta,hl,Nat.add_mul],?_⟩,fun h0 e0 f0=>⟨?_,?_⟩⟩
  ·exact ct.push (h.kill b) es _
  ·exact(e0.kill (f0 _ rfl)).trans (.push _ _ _)
  ·intro ad dc
   cases dc;exact e0.next
theorem SZ(l:List Int){i:Int}(h0:0<=i)(h1:i<l.length):l.take (i+1).toNat=l.take i.toNat++[dZ l i]:=by
 have e:(i+1).toNat=i.toNat+1:=om
 have hi:i.toNat<l.length:=om
 rw[e,List.take_add_one,List.getElem?_eq_getElem hi];unfold dZ;simp[hi]
theorem HW(l:List Int){i j:Int}(hi:0<=i)(hj:0<=j)(hl:i<l.length)(x:Int):dZ (l.set i.toNat x) j=if j=i then x else dZ l j:=by
 unfold dZ;by_cases e:j=i
 ·subst e;rw[if_pos rfl];simp[show j.toNat<l.length by omega]
 ·rw[if_neg e]
  have:i.toNat≠j.toNat:=om
  simp[List.getD_eq_getElem?_getD,List.getElem?_set_ne this]
theorem JH{l m:List Int}(hl:l.length=m.length)(h:∀i:Int,0<=i->i<l.length->dZ l i=dZ m i):l=m:=by
 apply List.ext_getElem hl;intro i h1 h2;have:=h i om om;unfold dZ at this;simpa[h1,h2]using this
end Go.cV
namespace Go.cV
theorem vC{P:Program}{t t2 e es:Nat}(hT:gA P t e es)(JG:P.underlying t2=some (.slice e)){h:af}{a a2:Option Addr}{n c n2 c2:Nat}{cells news:List Value}(hp:mT h es a n c cells)(hs:Cells h a2 n2 es news)(fF:cells.all aF=true)(rH:news.all aF=true)(Ah:0<n2)(uE:n+n2<=1000000) :
  ∃a' c' h',cQ P h [t,t2] [.slice a n c,.slice a2 n2 c2]=some (.slice a' (n+n2) c',h')/\mT h' es a' (n+n2) c' (cells++news)/\(∀h0,Ext h0 h->jm h0.next a->Ext h0 h'/\jm h0.next a')/\h.next<=h'.next/\jm h.next a'/\∀i,i<h.next->(∀ad,a=some ad->ad.block≠i)->h'.m.get i=h.m.get i:=by
 obtain⟨by_,rN,nV⟩:=hT.bytes;obtain⟨z,hz,zO⟩:=hT.zero;have ta:=hs.length;have gS:jK P h e es false (.slice a2 n2 c2)=some (n2,news):=by
  unfold jK;simp only[cond_false];cases a2 with
  |none=>obtain⟨rfl,rfl⟩:=hs;omega
  |some ad=>
   obtain⟨h1,h2,h3⟩:=hs;simp only[h3]
 unfold cQ;simp only[hT.yE,hT.size,rN,JG,hz,cZ,gS];rcases hp with ⟨rfl,rfl,rfl,rfl⟩|⟨b,rfl,rfl,hb,hl,ho⟩
 ·have e1:cO 0=0:=rfl
  rw[e1,ft om];simp only[cond_false];rw[bz (show 0+n2<=1073741824 by omega),bz nV,rH,zO,ta];simp only[Bool.and_self,Nat.beq_refl,cond_true];refine⟨_,_,_,rfl,.inr ⟨h.next,rfl,rfl,by simp[af.push],by simp[ta],?_⟩,fun h0 e0 f0=>⟨e0.trans (.push _ _ _),?_⟩,?_,?_,?_⟩
  ·rw[List.nil_append];exact ct.push _ _ _
  ·intro ad dc
   cases dc;exact e0.next
  ·exact Nat.le_succ _
  ·intro ad dc
   cases dc;exact Nat.le_refl _
  ·intro i hi _
   show(h.m.set h.next _).get i=_;rw[cW.aT _ _ om]
 ·have e1:cO (az es n)=n:=cA (by unfold aS;omega)
  rw[e1,ft om];simp only[cond_false];rw[bz (show n+n2<=1073741824 by omega),bz nV,rH,zO,ta];simp only[Bool.and_self,Nat.beq_refl,cond_true];have hr:h.aN ⟨b,0,none⟩ (n*es)=some cells:=by rw[ho.aN om];simp[<-hl]
  simp only[hr];rw[cJ (dB es n),fF];simp only[cond_false,cond_true];rw[show h.m.get b=some (.live true es cells)from ho];simp only[Nat.beq_refl,cond_true];refine⟨_,_,_,rfl,.inr ⟨h.next,rfl,rfl,by simp[af.push,af.kill],by simp[ta,hl,Nat.add_mul],?_⟩,fun h0 e0 f0=>⟨?_,?_⟩,?_,?_,?_⟩
  ·exact ct.push (h.kill b) es _
  ·exact(e0.kill (f0 _ rfl)).trans (.push _ _ _)
  ·intro ad dc
   cases dc;exact e0.next
  ·exact Nat.le_succ _
  ·intro ad dc
   cases dc;exact Nat.le_refl _
  ·intro i hi eO
   show((h.m.set b _).set h.next _).get i=_;rw[cW.aT _ _ om,cW.aT _ _ (eO _ rfl)]
theorem ct.gQ{h h':af}{b es:Nat}{cells:List Value}(c:ct h b es cells)(e:h'.m.get b=h.m.get b):ct h' b es cells:=by
 unfold ct at c ⊢;rw[e];exact c
theorem mT.gQ{h h':af}{es:Nat}{a:Option Addr}{n c:Nat}{cells:List Value}(p:mT h es a n c cells)(hn:h.next<=h'.next)(e:∀ad,a=some ad->ad.block<h.next->h'.m.get ad.block=h.m.get ad.block):mT h' es a n c cells:=by
 rcases p with ⟨rfl,rfl,rfl,rfl⟩|⟨b,rfl,rfl,hb,hl,ho⟩
 ·exact .nil _ _
 ·exact .inr ⟨b,rfl,rfl,Nat.lt_of_lt_of_le hb hn,hl,ho.gQ (e _ rfl hb)⟩
theorem mT.lt{h:af}{es:Nat}{a:Option Addr}{n c:Nat}{cells:List Value}(p:mT h es a n c cells):∀ad,a=some ad->ad.block<h.next:=by
 rcases p with ⟨rfl,rfl,rfl,rfl⟩|⟨b,rfl,rfl,hb,hl,ho⟩
 ·intro ad h;cases h
 ·intro ad h;cases h;exact hb
end Go.cV
namespace Go.cV
def Gu(h:af)(es b n c:Nat)(cells:List Value):Prop:=ct h b es cells/\b<h.next/\cells.length=n*es/\((c=0/\n=0)\/c=az es n)
theorem Gv{P:Program}{t t2 e es:Nat}(hT:gA P t e es)(JG:P.underlying t2=some (.slice e)){h:af}{b n c n2 c2:Nat}{a2:Option Addr}{cells news:List Value}(hp:Gu h es b n c cells)(hs:Cells h a2 n2 es news)(fF:cells.all aF=true)(rH:news.all aF=true)(uE:n+n2<=1000000) :
  ∃b' c' h',cQ P h [t,t2] [.slice (some ⟨b,0,none⟩) n c,.slice a2 n2 c2]=some (.slice (some ⟨b',0,none⟩) (n+n2) c',h')/\Gu h' es b' (n+n2) c' (cells++news)/\(∀h0,Ext h0 h->h0.next<=b->Ext h0 h'/\h0.next<=b'):=by
 obtain⟨ho,hb,hl,hc⟩:=hp;obtain⟨by_,rN,nV⟩:=hT.bytes;obtain⟨z,hz,zO⟩:=hT.zero;have ta:=hs.length;have gS:jK P h e es false (.slice a2 n2 c2)=some (n2,news):=by
  unfold jK;simp only[cond_false];cases a2 with
  |none=>obtain⟨rfl,rfl⟩:=hs;simp
  |some ad=>
   obtain⟨h1,h2,h3⟩:=hs;simp only[h3]
 have Jl:cO c=n:=by
  rcases hc with ⟨rfl,rfl⟩|rfl
  ·rfl
  ·exact cA (by unfold aS;omega)
 unfold cQ;simp only[hT.yE,hT.size,rN,JG,hz,cZ,gS];rw[Jl];by_cases h0:n2=0
 ·subst h0
  have:news=[]:=by simpa using ta
  subst this;obtain⟨h',hw,mR,pN⟩:=ho.write (o:=n*es) (vs:=[]) (by simp;omega);have VW:h.iA (gi ⟨b,0,none⟩ (n*es)) []=some h':=by
   unfold af.iA gi;simp only[List.all_nil,cond_true,Nat.zero_add];exact hw
  rw[bz (show n+0<=n by omega)];simp only[cond_true,VW];have e2:cells.take (n*es)++([]++cells.drop (n*es+([]:List Value).length))=cells:=by simp
  rw[e2]at mR;exact⟨b,c,h',rfl,⟨by simpa using mR,by rw[pN.next];exact hb,by simpa using hl,hc⟩,fun h0 e0 ng=>⟨pN.ext e0 ng,ng⟩⟩
 ·rw[ft om]
  simp only[cond_false];rw[bz (show n+n2<=1073741824 by omega),bz nV,rH,zO,ta];simp only[Bool.and_self,Nat.beq_refl,cond_true];have hr:h.aN ⟨b,0,none⟩ (n*es)=some cells:=by rw[ho.aN om];simp[<-hl]
  simp only[hr];rcases hc with ⟨rfl,rfl⟩|rfl
  ·rw[eE (show 0<aS by unfold aS;omega),fF]
   simp only[cond_true];refine⟨_,_,_,rfl,⟨ct.push _ _ _,by simp[af.push],by simp[hl,ta],.inr rfl⟩,fun h0 e0 ng=>⟨e0.trans (.push _ _ _),e0.next⟩⟩
  ·rw[cJ (dB es n),fF]
   simp only[cond_false,cond_true];rw[show h.m.get b=some (.live true es cells)from ho];simp only[Nat.beq_refl,cond_true];refine⟨_,_,_,rfl,⟨ct.push (h.kill b) es _,by simp[af.push,af.kill],by simp[hl,ta,Nat.add_mul],.inr rfl⟩,fun h0 e0 ng=>⟨(e0.kill ng).trans (.push _ _ _),?_⟩⟩;exact e0.next
end Go.cV
namespace Go.cV
open Go.RowKit
def mU:Value->Bool
 | .agg cs=>cs.toList.all bm
 |v=>bm v
def sq:Value->Bool
 | .tuple cs=>cs.toList.all mU
 |v=>mU v
theorem fJ.B5{g:Nat->Option Loc}{P:Value->Bool}(hP:∀v c,VG g v c->P v=true->c=v):∀{l l':List Value},fJ g l l'->l.all P=true->l'=l
 | [],l',h,_=>h.iX
 |u :: l,l',h,hf=>by
  obtain⟨v,l2,rfl,hv,hl⟩:=h.head;simp only[List.all_cons,Bool.and_eq_true]at hf;rw[fJ.B5 hP hl hf.2,hP u v hv hf.1]
theorem VG.yF{g:Nat->Option Loc}{u v:Value}(hv:VG g u v)(hu:bm u=true):v=u:=by
 cases hv with
 |flat _ _=>rfl
 |zS=>simp[bm]at hu
 |ptr=>simp[bm]at hu
 |gP=>simp[bm]at hu
 |gZ=>simp[bm]at hu
 |kC=>simp[bm]at hu
 |jN=>simp[bm]at hu
 |xk=>simp[bm]at hu
 |yield=>simp[bm]at hu
 |func=>simp[bm]at hu
 |agg=>simp[bm]at hu
 |tuple=>simp[bm]at hu
theorem VG.uR{g:Nat->Option Loc}{u v:Value}(hv:VG g u v)(hu:mU u=true):v=u:=by
 unfold mU at hu;split at hu
 ·rename_i cs
  cases hv with
  |flat _ _=>rfl
  |agg _ x' hx h1=>
   have:=fJ.B5 (P:=bm) (fun _ _=>VG.yF) (l:=cs.toList) (l':=x'.toList) ⟨hx,h1⟩ hu;rw[Array.toList_inj.1 this]
 ·exact hv.yF hu
theorem VG.JI{g:Nat->Option Loc}{u v:Value}(hv:VG g u v)(hu:sq u=true):v=u:=by
 unfold sq at hu;split at hu
 ·rename_i cs
  cases hv with
  |flat _ _=>rfl
  |tuple _ x' hx h1=>
   have:=fJ.B5 (P:=mU) (fun _ _=>VG.uR) (l:=cs.toList) (l':=x'.toList) ⟨hx,h1⟩ hu;rw[Array.toList_inj.1 this]
 ·exact hv.uR hu
theorem VG.uS{g:Nat->Option Loc}{v:Value}(h:mU v=true):VG g v v:=by
 unfold mU at h;split at h
 ·exact .agg _ _ rfl (fJ.flat h).2
 ·exact .flat _ h
theorem VG.JJ{g:Nat->Option Loc}{v:Value}(h:sq v=true):VG g v v:=by
 unfold sq at h;split at h
 ·refine .tuple _ _ rfl (fun i u w h1 h2=>?_)
  rw[h1]at h2;cases h2;exact .uS (List.all_eq_true.1 h u (List.mem_of_getElem? h1))
 ·exact .uS h
def qi(f:FuncId->List Value->Option Value)(F:bg):bg:=fun g args h=>
 match f g args with
 |some v=>some (v,h)
 |none=>F g args h
theorem Ea{P : Program}{H : Hint}{F0 F : bg}{f : FuncId → List Value → Option Value}(hm : P.follows .mixedOrders = true)(hF0 : dC P F0)(ZI : aX F0)(cG : ∀ (g : FuncId) (fn : Func), P.funcs[g]? = some fn → (fn.name == "runtime.NumGoroutine") = false)
  (hf:∀(g:FuncId) (args:List Value) (v:Value),f g args=some v->args.all mU=true/\sq v=true/\(∃fn,P.funcs[g]?=some fn/\fn.body.isSome=true)/\∃h',OP P H F0 g args kE v h') (hF:dC P F):dC P (qi f F):=by
 intro g args h v h' hc hg G w aU hR hA;unfold qi at hc;split at hc
 ·rename_i u hu
  simp only[oi,pj]at hc;obtain⟨rfl,rfl⟩:=hc;obtain⟨h1,h2,⟨fn,zK,hb⟩,h3,hr⟩:=hf g args u hu;have ha:=fJ.B5 (P:=mU) (fun _ _=>VG.uR) hA h1;subst ha;have hR0:HR ⟨fun _=>none,fun _=>none⟩ (iC kE) w:=
   { cU:=(fun id L h=>by cases h),dm:=(fun id L h=>by cases h),cK:=(fun id L b h=>by cases h),dn:=(fun id pF L L' b b' h=>by cases h),fe:=(fun t L h=>by cases h),dX:=(fun t L h=>by cases h),ff:=(fun t t' L L' h=>by cases h),sep:=(fun id t L L' h=>by cases h) }
  have self:fJ (fun _=>none) aU aU:=⟨rfl,fun i u v th JK=>by
   rw[th]at JK;cases JK;exact .uS (List.all_eq_true.1 h1 u (List.mem_of_getElem? th))⟩
  have hd:=hr.ok hm hF0 ZI cG hg hR0 self;refine hd.mono (fun c w' ⟨G',hv,hG,_⟩=>?_);have Js:Below w.heap.size w w':=⟨hG.os,hG.tape,hG.output,hG.size,fun k hk=>hG.frame k hk (fun id L h=>by cases h) (fun t L h=>by cases h)⟩;rw[hv.JI h2];exact⟨G,.JJ h2,.grown hR Js,.refl _ _⟩
 ·exact hF g args h v h' hc hg G w aU hR hA
theorem Ai{f:FuncId->List Value->Option Value}{F:bg}(hF:aX F):aX (qi f F):=by
 intro g args h v h' hc;unfold qi at hc;split at hc
 ·simp only[oi,pj]at hc
  obtain⟨_,rfl⟩:=hc;exact .refl _ _
 ·exact hF g args h v h' hc
end Go.cV
namespace Go.cV
open Go.RowKit
def af.Mg(h:af):af:={ h with low:=h.next }
theorem Mh{G:Nat->Option Loc}{h:af}{w:World}(hR:HR ⟨G,fun _=>none⟩ (iC h) w):HR ⟨G,fun _=>none⟩ (iC h.Mg) w:=
 { cU:=hR.cU,dm:=hR.dm,cK:=hR.cK,dn:=hR.dn,fe:=hR.fe,dX:=hR.dX,ff:=hR.ff,sep:=hR.sep }
end Go.cV
namespace Go.cV
open Go.RowKit
variable{P:Program}
def WN(P:Program)(nt:Nat)(c:Code)(s:St)(Q:Exit->St->Prop):Prop:=
 ∀(J:dM) (w:World) (a:Act),HR J s w->ER J s a->nt<=a.tmps.size->c.wpIn (Wd none) 0 P (fun e a' w'=>∃s',Q e s'/\kM J s w a s' a' w') a w
theorem WN.mono{nt:Nat}{c:Code}{s:St}{Q Q':Exit->St->Prop}(h:WN P nt c s Q)(hq:∀e s',Q e s'->Q' e s'):WN P nt c s Q':=
 fun J w a hR hE hn=>wpIn_mono (h J w a hR hE hn) (fun e a' w' ⟨s',q,p⟩=>⟨s',hq e s' q,p⟩)
theorem WN.det{run:FuncId->Nat->Code->St->Option (Exit×St)}(hr:xW P run){f:FuncId}{nt:Nat}{c:Code}{s s':St}{x:Exit}{Q:Exit->St->Prop}(h:run f nt c s=some (x,s'))(hq:Q x s'):WN P nt c s Q:=
 fun J w a hR hE hn=>wpIn_mono (hr f nt c s x s' h none (.inl rfl) J w a hR hE hn) (fun e a' w' ⟨he,p⟩=>⟨s',by rw[he];exact hq,p⟩)
theorem WN.seq{nt:Nat}{c d:Code}{s:St}{Q:Exit->St->Prop}(h:WN P nt c s (fun e s1=>match e with | .normal=>WN P nt d s1 Q|e=>Q e s1)):WN P nt (.seq c d) s Q:=by
 intro J w a hR hE hn;refine wpIn_seq (wpIn_mono (h J w a hR hE hn) ?_);rintro e a1 w1 ⟨s1,q,J1,q1,q2,q3,q4,q5⟩;cases e with
 |normal=>
  show d.wpIn (Wd none) 0 P _ a1 w1;refine wpIn_mono (q J1 w1 a1 q1.hr q2 (by rw[q3];exact hn)) ?_;rintro e a2 w2 ⟨s2,r,p⟩;exact⟨s2,r,kM.trans q1 q3 q4 q5 p⟩
 |_=>exact si (by simp) ⟨s1,q,J1,q1,q2,q3,q4,q5⟩
theorem WN.PG{g : FuncId}{fn : Func}{c : Code}(zK : P.funcs[g]? = some fn)(hb : fn.body = some c)(cG : (fn.name == "runtime.NumGoroutine") = false){args : List Value}{h : af}{R : Value → af → Prop}
  (hw:WN P fn.ntmps c { env:=fM args 0 .leaf,kn:=0,K:=.leaf,h:=h } (fun e s'=>(e=.normal\/e=.ret)/\∃v h',vV P fn s'=some (v,h')/\R v h'))
  {G:Nat->Option Loc} {w:World} {aU:List Value} (hR:HR ⟨G,fun _=>none⟩ (iC h) w) (hA:fJ G args aU) :
  te P g aU.toArray w (fun c w'=>∃v h' G',R v h'/\VG G' v c/\Good ⟨G,fun _=>none⟩ (iC h) w ⟨G',fun _=>none⟩ (iC h') w'/\fG (h.next<=·) G G'):=by
 left;refine⟨ia zK (by rw[hb];rfl) cG,(callsIn_wide (n:=0)).1 (callsIn_of_wp_marks zK hb trivial ?_)⟩;have Zx:HR ⟨G,fun _=>none⟩ { env:=fM args 0 .leaf,kn:=0,K:=.leaf,h:=h } w:=hR.env _;have Lt:ER ⟨G,fun _=>none⟩ { env:=fM args 0 .leaf,kn:=0,K:=.leaf,h:=h } { tmps:=aU.toArray++Array.replicate (fn.ntmps-aU.toArray.size) undef,defers:=[] }:=by
  intro t u hu;simp only[pT,Nat.zero_le,true_and,Nat.zero_add,Nat.sub_zero]at hu;by_cases ht:t<args.length
  ·rw[if_pos ht]at hu
   have VM:t<aU.length:=by rw[<-hA.1];exact ht
   refine⟨by simp;omega,?_⟩;have:(aU.toArray++Array.replicate (fn.ntmps-aU.toArray.size) undef).getD t undef=aU[t]:=by
    simp[Array.getD,VM,Array.getElem_append,show t<aU.length+(fn.ntmps-aU.length) by omega]
   rw[this];exact .c7 _ _ (hA.2 t u _ hu (by simp[VM]))
  ·rw[if_neg ht]at hu;simp[cW.get]at hu
 have LI:=hw _ w _ Zx Lt (by simp;omega);refine wpIn_mono (F:=Fence.wide) LI ?_;rintro e a' w' ⟨s',⟨hx,v,h',dr,hRv⟩,J',q1,q2,q3,⟨Ds,q4,q6,q7⟩,q5⟩;simp only[List.append_nil]at q4;unfold vV at dr;split at dr
 ·rename_i l hl
  cases hn:l.all dA with
  |false=>rw[hn]at dr;simp at dr
  |true=>
   rw[hn]at dr;simp only[cond_true,oi,pj]at dr;obtain⟨rfl,rfl⟩:=dr;have tr:LeavesInM Fence.wide 0 P fn a'.tmps (fun e w'=>∃c,e=.returned c/\∃v h' G',R v h'/\VG G' v c/\Good ⟨G,fun _=>none⟩ (iC h) w ⟨G',fun _=>none⟩ (iC h') w'/\fG (h.next<=·) G G') a'.defers .returning w':=by
    rw[q4];refine n8 (fun SU=>Good ⟨G,fun _=>none⟩ { env:=fM args 0 .leaf,kn:=0,K:=.leaf,h:=h } w J' s' SU) (fun SU hG=>?_) Ds w' q6 (fun D hD=>(q7 D hD).2.1) q1 (fun SU D hG hD=>hG.VH (q7 D hD).1 (q7 D hD).2.2.1 (q7 D hD).2.2.2 _);obtain⟨cv,r1,r2⟩:=vw hG.hr q2 hl hn;exact⟨cv,r1,cv,rfl,_,_,J'.g,hRv,r2,hG.bare,q5⟩
   rcases hx with rfl|rfl<;>exact tr
 ·cases dr
structure rI(P:Unit->Program)(nt:Nat)(c:Code)(s:SS)(Q:Exit->SS->Prop):Prop where
 go:∀t,Le s t->t.h.low<=t.h.next->WN (P ()) nt c t (fun e t'=>∃s',Le s' t'/\t'.h.low<=t'.h.next/\Q e s')
variable{P:Unit->Program}
theorem rI.run{H : Hint}{F : bg}{A : bH}(hA : AOK P H F A)(V : Live)(hm : (P ()).follows .mixedOrders = true)(hF : dC (P ()) F)(cG : ∀ (g : FuncId) (fn : Func), (P ()).funcs[g]? = some fn → (fn.name == "runtime.NumGoroutine") = false)
  {f:FuncId} {fn:Func} {c0:Code} (zK:(P ()).funcs[f]?=some fn) (uu:fn.body=some c0) {c:Code} (hl:bF c=[]) (hr:bG c=[]) {s:SS} {Q:Exit->SS->Prop} (h:wpS P H A V f fn.ntmps c s Q):rI P fn.ntmps c s Q:=by
 refine⟨?_⟩;intro t hs ar;have e:=hA.eq;subst e;obtain⟨x,t',s',⟨n,nf⟩,rG,hq⟩:=Gs hA.dL zK uu c s t Q ⟨(fun b hb=>by rw[hl]at hb;simp at hb),(fun b hb=>by rw[hr]at hb;simp at hb)⟩ hs ar h;have hk:=(hO hA.dL n).1 _ _ _ _ _ _ nf;exact WN.det (tu hm hF hA.dL cG n).1 nf ⟨s',rG,by have h1:=hk.next;have h2:=hk.low;omega,hq⟩
theorem rI.seq{nt:Nat}{c d:Code}{s:SS}{Q:Exit->SS->Prop}(h:rI P nt c s (fun e s1=>match e with | .normal=>rI P nt d s1 Q|e=>Q e s1)):rI P nt (.seq c d) s Q:=by
 refine⟨?_⟩;intro t hs ar;refine WN.seq ((h.go t hs ar).mono ?_);rintro e t1 ⟨s1,q1,q2,q3⟩;cases e with
 |normal=>exact q3.go t1 q1 q2
 |_=>exact⟨s1,q1,q2,q3⟩
theorem rI.less{nt:Nat}{c:Code}{s s0:SS}{Q:Exit->SS->Prop}(he:∀i v,lk s0.env i=some v->lk s.env i=some v)(hK:∀i v,lk s0.K i=some v->lk s.K i=some v)(hk:s0.kn=s.kn)(hh:s0.h=s.h)(h:rI P nt c s0 Q):rI P nt c s Q:=
 ⟨fun t hs ar=>h.go t ⟨fun i v hi=>hs.env i v (he i v hi),fun i v hi=>hs.K i v (hK i v hi),by rw[hk];exact hs.kn,by rw[hh];exact hs.h⟩ ar⟩
theorem Gw{α:Type}:∀{l:List (Nat×α)} {i:Nat} {v:α},lk l i=some v->(i,v)∈l
 | [],i,v,h=>by simp[lk]at h
 |p :: l,i,v,h=>by
  rw[k9]at h;by_cases e:p.1=i
  ·rw[if_pos e]at h
   obtain rfl:=Option.some.inj h;subst e;exact List.mem_cons_self
  ·rw[if_neg e]at h
   exact List.mem_cons_of_mem _ (Gw h)
theorem rI.VX{nt:Nat}{c:Code}{env env0:List (Nat×Value)}{kn:Nat}{K:List (Nat×List Value)}{h:af}{Q:Exit->SS->Prop}(he:∀p∈env0,lk env p.1=some p.2)(hw:rI P nt c ⟨env0,kn,K,h⟩ Q):rI P nt c ⟨env,kn,K,h⟩ Q:=
 rI.less (s0:=⟨env0,kn,K,h⟩) (fun i v hi=>he _ (Gw hi)) (fun i v hi=>hi) rfl rfl hw
theorem rI.PG{g : FuncId}{fn : Func}{c : Code}(zK : (P ()).funcs[g]? = some fn)(hb : fn.body = some c)(cG : (fn.name == "runtime.NumGoroutine") = false){args : List Value}{h : af}{i : Tmp}(z8 : fn.results.toList = [.tmp i]){R : Value → af → Prop}(hl : h.low ≤ h.next)
  (hw:rI P fn.ntmps c ⟨rT args 0 [],0,[],h⟩ (fun e s'=>(e=.normal\/e=.ret)/\∃v,lk s'.env i=some v/\dA v=true/\R v s'.h))
  {G:Nat->Option Loc} {w:World} {aU:List Value} (hR:HR ⟨G,fun _=>none⟩ (iC h) w) (hA:fJ G args aU) :
  te (P ()) g aU.toArray w (fun c w'=>∃v h' G',R v h'/\VG G' v c/\Good ⟨G,fun _=>none⟩ (iC h) w ⟨G',fun _=>none⟩ (iC h') w'/\fG (h.next<=·) G G'):=by
 refine WN.PG zK hb cG ?_ hR hA;have e:=B4 args 0 [];simp only[E]at e;rw[e];refine(hw.go _ (HV ⟨rT args 0 [],0,[],h⟩) hl).mono ?_;rintro x t' ⟨s',q1,q2,hx,v,q3,q4,q5⟩;refine⟨hx,v,s'.h,?_,q5⟩;unfold vV;rw[z8];simp only[vU,q1.env _ _ q3];simp only[List.all_cons,q4,List.all_nil,Bool.and_true,cond_true,js,q1.h]
end Go.cV
namespace Go.cV
open Go.RowKit
variable{P:Program}
theorem yG{ro:Option Nat}{H:Hint}{call:cF}(fE:gT P call){f:FuncId}{nt:Nat}{ops:Array Oper}{Q:Exit->Act->World->Prop}(more:Nat):∀(l:List Oper) (k:Nat) (s:St) (J:dM) (w:World) (a:Act) (s':St),
  (∀j,j<l.length->l[j]?=ops[k+j]?)->lP P H call f nt ops l s=some s'->HR J s w->ER J s a->nt<=a.tmps.size->(∀a' w',F2 J s w a s' a' w'->wpOpsIn (Wd ro) 0 P ops Q (List.range' (k+l.length) more) a' w')->wpOpsIn (Wd ro) 0 P ops Q (List.range' k (l.length+more)) a w
 | [],k,s,J,w,a,s',_,h,hR,hE,_,hQ=>by
  simp only[lP,oi]at h;subst h;have:=hQ a w ⟨J,.refl hR,hE,rfl,rfl,.refl _ _⟩;simpa using this
 |o :: l,k,s,J,w,a,s',hl,h,hR,hE,hn,hQ=>by
  have ho:ops[k]?=some o:=by have:=hl 0 (by simp);simpa using this.symm
  have K8:∀j,j<l.length->l[j]?=ops[k+1+j]?:=fun j hj=>by have:=hl (j+1) (by simpa using hj);simpa[Nat.add_assoc,Nat.add_comm 1 j]using this
  rw[List.length_cons,show l.length+1+more=(l.length+more)+1 by omega,List.range'_succ];simp only[wpOpsIn,ho];simp only[lP]at h;split at h
  ·rename_i hw
   rw[jc hw (hE.gu ops o),if_pos rfl];split at h
   ·rename_i v s1 h1
    split at h
    ·rename_i s2 h2
     refine AI fE hR (hE.ev _) h1 _ Q ?_ ro;intro c w' J' hG Ph hv zW hA _;have Lt:ER J' s1 a:=by
      have:=hE.mono (J':=J') hG.mono Ph;intro t u hu;exact this t u (by rw[zW]at hu;exact hu)
     have SD:=wA h2 Lt hn hv;have Dz:Good J s w J' s2 w':=by rw[cM h2];exact hG.env _
     refine yG fE more l (k+1) s2 J' w' (a.put o.dst c) s' K8 h Dz.hr SD (by rw[eQ];exact hn) ?_;rintro a' w2 ⟨J2,q1,q2,q3,q4,q5⟩;rw[show k+1+l.length=k+(l.length+1) by omega];exact hQ a' w2 ⟨J2,Dz.trans q1,q2,by rw[q3,eQ],by rw[q4,put_defers],hA.trans (q5.mono (fun k hk=>Nat.le_trans Dz.next hk))⟩
    ·cases h
   ·cases h
  ·rename_i hw
   rw[jc hw (hE.gu ops o),if_neg (by simp)];split at h
   ·rename_i s1 h1
    have SD:=wA h1 hE hn (c:=undef) (.c7 _ _ (VG.of_flat rfl));have Dz:Good J s w J s1 w:=by rw[cM h1];exact(Good.refl hR).env _
    refine⟨fun _ _=>trivial,?_⟩;refine yG fE more l (k+1) s1 J w (a.put o.dst undef) s' K8 h Dz.hr SD (by rw[eQ];exact hn) ?_;rintro a' w2 ⟨J2,q1,q2,q3,q4,q5⟩;rw[show k+1+l.length=k+(l.length+1) by omega];exact hQ a' w2 ⟨J2,Dz.trans q1,q2,by rw[q3,eQ],by rw[q4,put_defers],q5.mono (fun k hk=>Nat.le_trans Dz.next hk)⟩
   ·cases h
  ·cases h
theorem WN.cap{H:Hint}{call:cF}(fE:gT P call){f:FuncId}{nt id d:Nat}{x:Operand}{t e:TypeId}{o:Oper}{pre rest:List Oper}{ops:Array Oper}(zV:ops.toList=pre++o :: rest)
  (ho:o.op=.call { callee:=.builtin .cap,args:=#[x],argTypes:=#[t] }) (hd:o.dst=some d) (XY:d<nt) (hg:o.guard=none) (ht:P.underlying t=some (.slice e))
  {s s1:St} (ZJ:lP P H call f nt ops pre s=some s1) {b:Nat} {off n k:Nat} (hx:bJ s1 x=some (.slice (some ⟨b,off,none⟩) n k)) {Q:Exit->St->Prop}
  (h:∀c:Nat,cO k<=c->∃s2,lP P H call f nt ops rest { s1 with env:=s1.env.set d (.int .i64 c) }=some s2/\Q .normal s2):WN P nt (.region id ops false) s Q:=by
 intro J w a hR hE hn;refine wpIn_region ?_;have uB:ops.size=pre.length+(1+rest.length):=by have:=congrArg List.length zV;simp at this;omega
 have h0:∀j,j<pre.length->pre[j]?=ops[0+j]?:=fun j hj=>by rw[Nat.zero_add,<-Array.getElem?_toList,zV,List.getElem?_append_left hj]
 have h1:ops[pre.length]?=some o:=by rw[<-Array.getElem?_toList,zV,List.getElem?_append_right (Nat.le_refl _)];simp
 have VY:∀j,rest[j]?=ops[pre.length+1+j]?:=fun j=>by rw[<-Array.getElem?_toList,zV,List.getElem?_append_right om,show pre.length+1+j-pre.length=j+1 by omega];rfl
 rw[List.range_eq_range',uB];refine yG fE (1+rest.length) pre 0 s J w a s1 h0 ZJ hR hE hn ?_;rintro a1 w1 ⟨J1,g1,g2,g3,g4,g5⟩;rw[Nat.zero_add,Nat.add_comm 1,List.range'_succ];have hw:Region.wanted o (yielded ops a1.tmps)=true:=by unfold Region.wanted;rw[hg]
 simp only[wpOpsIn,h1,hw,if_true];obtain⟨a',c',Rd,hc⟩:=((g2.eval hx).pK rfl).iJ;have XU:∀c,o.op≠.defer c:=fun c e=>by rw[ho]at e;cases e
 have hex:execOp a1.eval o=((Builtin.cap_ #[t] o.type #[.slice a' n c']) >>= fun u=>pure (Next.value u)):=by
  unfold execOp;simp only[ho,resolve,invoke,builtin];simp[Rd]
 obtain⟨s2,k1,k2⟩:=h c' hc;have nf:(Builtin.cap_ #[t] o.type #[.slice a' n c']).run P w1=.ok (.int .i64 c') w1:=by simp[Builtin.cap_,aL ht,goInt]
 have Yd:=dJ.op (dJ.still (R:=(s1.h.next<=·)) (Rl:=fun _=>False) g1.hr nf (.c7 _ _ (VG.of_flat (v:=.int .i64 c') rfl)));rw[<-hex]at Yd;refine Dy.Sy XU Yd _ _ ?_ none;intro c w' J' hG Ph hv zW hA _;have Lt:ER J' { s1 with env:=s1.env.set d (.int .i64 c') } (a1.put o.dst c):=by
  rw[hd];intro t u hu;have Sl:(s1.env.set d (.int .i64 c')).get t=some u:=hu;rw[cW.bO]at Sl;show t<(a1.tmps.setIfInBounds d c).size/\VR J' u ((a1.tmps.setIfInBounds d c).getD t undef);by_cases e:d=t
  ·rw[if_pos e]at Sl
   subst e;obtain rfl:=Option.some.inj Sl;refine⟨by simp;omega,?_⟩;rw[show(a1.tmps.setIfInBounds d c).getD d undef=c by simp[Array.getD,show d<a1.tmps.size by omega]];exact hv
  ·rw[if_neg e]at Sl
   obtain⟨k1,k2⟩:=g2 t u Sl;refine⟨by simpa using k1,?_⟩;rw[show(a1.tmps.setIfInBounds d c).getD t undef=a1.tmps.getD t undef by simp[Array.getD,k1,e]];exact k2.mono hG.mono Ph
 refine qP fE rest (pre.length+1) _ J' w' _ s2 VY k1 (hG.env _).hr Lt (by rw[eQ,g3];exact hn) ?_;rintro a2 w2 ⟨J2,q1,q2,q3,q4,q5⟩;refine⟨s2,k2,J2,g1.trans ((hG.env (s1.env.set d (.int .i64 c'))).trans q1),q2,by rw[q3,eQ,g3],by rw[q4,put_defers,g4];exact .none _ _ _ _,g5.trans (fG.mono (hA.trans (q5.mono (fun k hk=>Nat.le_trans hG.next hk))) (fun k hk=>Nat.le_trans g1.next hk))⟩
end Go.cV
namespace Go.cV
open Go.RowKit
def Aj:Value->Bool
 | .slice (some ⟨_,_,none⟩) _ _=>true
 |_=>false
def jA(args:List Value)(h:af):Option (Value×af):=
 match args with
 | [.slice (some ⟨b,0,none⟩) n k,.int .i64 i,.slice (some ⟨vb,0,none⟩) 1 1]=>
  match h.m.get b,h.m.get vb with
  |some (.live true 1 cs),some (.live true 1 [v])=>
   bif Nat.beq k (az 1 n) && Nat.beq cs.length n && decide (0<=i/\i<n) && cs.all Aj && Aj v && !(Nat.beq b vb) && Nat.ble n 1000 then
    some (.slice (some ⟨h.next,0,none⟩) (n+1) (az 1 (n+1)),(h.kill b).push 1 (cs.take i.toNat++v :: cs.drop i.toNat))else none
  |_,_=>none
 |_=>none
def jS(args:List Value)(h:af):Option (Value×af):=
 match args with
 | [.slice (some ⟨a,_,none⟩) _ _,.slice (some ⟨b,_,none⟩) _ _]=>
  match h.m.get a,h.m.get b with
  |some (.live true 1 (_ :: _)),some (.live true 1 (_ :: _))=>bif Nat.beq a b then none else some (.bool false,h)
  |_,_=>none
 |_=>none
def ql(g0:FuncId)(f:List Value->af->Option (Value×af))(F:bg):bg:=fun g args h=>bif Nat.beq g g0 then(match f args h with|some r=>some r|none=>F g args h)else F g args h
theorem ou{args:List Value}{h h':af}{r:Value}(hc:jA args h=some (r,h')):∃b n i vb cs v,args=[.slice (some ⟨b,0,none⟩) n (az 1 n),.int .i64 (Int.ofNat i),.slice (some ⟨vb,0,none⟩) 1 1]/\h.m.get b=some (.live true 1 cs)/\h.m.get vb=some (.live true 1 [v])/\cs.length=n/\i<n/\cs.all Aj=true/\Aj v=true/\b≠vb/\n<=1000 /\
  r=.slice (some ⟨h.next,0,none⟩) (n+1) (az 1 (n+1))/\h'=(h.kill b).push 1 (cs.take i++v :: cs.drop i):=by
 unfold jA at hc;split at hc
 ·rename_i b n k i vb
  split at hc
  ·rename_i cs v h1 h2
   obtain⟨hb,hc⟩:=mc hc;simp only[Bool.and_eq_true,decide_eq_true_eq,Bool.not_eq_true']at hb;obtain⟨⟨⟨⟨⟨⟨k1,k2⟩,k3,k4⟩,k5⟩,k6⟩,k7⟩,k8⟩:=hb;have k1:=Nat.eq_of_beq_eq_true k1;have k2:=Nat.eq_of_beq_eq_true k2;have k8:=Nat.le_of_ble_eq_true k8;obtain⟨rfl,rfl⟩:=Prod.mk.inj hc;obtain⟨j,rfl⟩:∃j:Nat,i=j:=⟨i.toNat,om⟩;subst k1;exact⟨b,n,j,vb,cs,v,rfl,h1,h2,k2,om,k5,k6,(fun e=>by rw[e,Nat.beq_refl]at k7;cases k7),k8,rfl,rfl⟩
  ·cases hc
 ·cases hc
end Go.cV
namespace Go.cV
open Go.RowKit
theorem AV{v:Value}(h:Aj v=true):∃b o n k,v=.slice (some ⟨b,o,none⟩) n k:=by
 unfold Aj at h;split at h
 ·exact⟨_,_,_,_,rfl⟩
 ·cases h
theorem Eb{P:Program}{g0:FuncId}{f:List Value->af->Option (Value×af)}{F:bg}(hF:dC P F)
  (hf:∀args h v h',f args h=some (v,h')->∀(G:Nat->Option Loc) (w:World) (aU:List Value),HR ⟨G,fun _=>none⟩ (iC h) w->fJ G args aU->te P g0 aU.toArray w (fun c w'=>∃G',VG G' v c/\Good ⟨G,fun _=>none⟩ (iC h) w ⟨G',fun _=>none⟩ (iC h') w'/\fG (h.next<=·) G G')):dC P (ql g0 f F):=by
 intro g args h v h' hc hg G w aU hR hA;unfold ql at hc;cases hb:Nat.beq g g0 with
 |false=>rw[hb]at hc;exact hF g args h v h' hc hg G w aU hR hA
 |true=>
  obtain rfl:=Nat.eq_of_beq_eq_true hb;rw[hb]at hc;simp only[cond_true]at hc;split at hc
  ·rename_i r hr
   simp only[oi]at hc;subst hc;exact hf args h v h' hr G w aU hR hA
  ·exact hF g args h v h' hc hg G w aU hR hA
theorem yH{g0:FuncId}{f:List Value->af->Option (Value×af)}{F:bg}(hf:∀args h v h',f args h=some (v,h')->bK h.next h h')(hF:aX F):aX (ql g0 f F):=by
 intro g args h v h' hc;unfold ql at hc;cases hb:Nat.beq g g0 with
 |false=>rw[hb]at hc;exact hF g args h v h' hc
 |true=>
  rw[hb]at hc;simp only[cond_true]at hc;split at hc
  ·rename_i r hr
   simp only[oi]at hc;subst hc;exact hf args h v h' hr
  ·exact hF g args h v h' hc
theorem B6(args:List Value)(h:af)(v:Value)(h':af)(hc:jA args h=some (v,h')):bK h.next h h':=by
 obtain⟨b,n,i,vb,cs,v,rfl,h1,_,_,_,_,_,_,_,rfl,rfl⟩:=ou hc;have k1:bK h.next h (h.kill b):=bK.kill (by rw[h1];simp);exact k1.trans (bK.push (h:=h.kill b) (by show h.next<=h.next;omega) _ _)
theorem yI(args:List Value)(h:af)(v:Value)(h':af)(hc:jS args h=some (v,h')):bK h.next h h':=by
 unfold jS at hc;split at hc
 ·split at hc
  ·rename_i a _ _ _ b _ _ _ _ _ _ _ _ _ _
   revert hc
   cases Nat.beq _ _ with
   |true=>intro hc;cases hc
   |false=>
    intro hc;simp only[cond_false,oi,pj]at hc;rw[hc.2];exact .refl _ _
  ·cases hc
 ·cases hc
theorem VG.Mi{G G':Nat->Option Loc}(hm:∀id L,G id=some L->G' id=some L){a:Addr}{len k:Nat}{c:Value}(hs:a.spot=none){L1:Loc}(h1:G a.block=some L1)(h:VG G' (.slice (some a) len k) c):VG G (.slice (some a) len k) c:=by
 have e:=hm _ _ h1;cases h with
 |flat _ h=>simp[bm]at h
 |gP _ L _ _ _ h hc=>
  rw[e]at h;obtain rfl:=Option.some.inj h;exact .gP _ _ _ _ hs h1 hc
 |gZ _ L _ m c _ h hm Q1 ht=>
  rw[e]at h;obtain rfl:=Option.some.inj h;exact .gZ _ _ _ _ _ hs h1 hm Q1 ht
 |kC _ a' x h=>rw[hs]at h;cases h
 |jN _ a' x c h=>rw[hs]at h;cases h
theorem HR.room{G:Nat->Option Loc}{h:af}{w:World}{b es:Nat}{cs:List Value}{L:Loc}(hR:HR ⟨G,fun _=>none⟩ (iC h) w)(hb:G b=some L)(hm:h.m.get b=some (.live true es cs))(hk:L.o+cs.length+1<=L.AD) :
  HR ⟨G,fun _=>none⟩ (iC { h with m:=h.m.set b (.live true es (cs++[.chan none])) }) w:=by
 have get:∀k,(h.m.set b (.live true es (cs++[.chan none]))).get k=if b=k then some (.live true es (cs++[.chan none]))else h.m.get k:=fun k=>by rw[cW.bO]
 refine { cU:=hR.cU,dm:=hR.dm,cK:=?_,dn:=?_,fe:=hR.fe,dX:=hR.dX,ff:=hR.ff,sep:=hR.sep }
 ·intro k L1 di h1 h2
  have JK:(h.m.set b (.live true es (cs++[.chan none]))).get k=some di:=h2;rw[get]at JK;by_cases e:b=k
  ·subst e
   rw[if_pos rfl]at JK;obtain rfl:=Option.some.inj JK;have th:G b=some L1:=h1;rw[hb]at th;obtain rfl:=Option.some.inj th;obtain⟨q1,cv,e,fr,q2,q3,q4⟩:=hR.cK b L _ hb hm;refine⟨q1,cv,e,fr,q2,?_,q4⟩;intro i v hi;by_cases c:i<cs.length
   ·rw[List.getElem?_append_left c]at hi
    exact q3 i v hi
   ·have Ec:=(List.getElem?_eq_some_iff.1 hi).1
    rw[List.length_append,List.length_singleton]at Ec;obtain rfl:i=cs.length:=om
    rw[List.getElem?_append_right (Nat.le_refl _)]at hi;simp at hi;subst hi;obtain⟨o,r1,r2⟩:=hR.dm b L hb;have:=r2 cv e fr (by rw[q2]at r1;exact(Option.some.inj r1).symm);exact⟨cv[L.o+cs.length]'om,Array.getElem?_eq_getElem _,.zS _⟩
  ·rw[if_neg e]at JK
   exact hR.cK k L1 di h1 JK
 ·intro k k' L1 L2 b1 b2 h1 h2 h3 h4 a1 a2 he
  have alv:∀k b1,(h.m.set b (.live true es (cs++[.chan none]))).get k=some b1->b1.alive=true->∃b2,h.m.get k=some b2/\b2.alive=true:=fun k b1 q1 q2=>by
   rw[get]at q1;by_cases e:b=k
   ·subst e;exact⟨_,hm,rfl⟩
   ·rw[if_neg e]at q1;exact⟨_,q1,q2⟩
  obtain⟨c1,d1,d2⟩:=alv k b1 h3 a1;obtain⟨c2,d3,d4⟩:=alv k' b2 h4 a2;exact hR.dn k k' L1 L2 c1 c2 h1 h2 d1 d3 d2 d4 he
theorem Good.Rn{G G':Nat->Option Loc}{h h2 h':af}{w w':World}{b b2:Nat}{L:Loc}{cells:List Value}(hR:HR ⟨G,fun _=>none⟩ (iC h) w)(hb:b<h.next)(hG:Good ⟨G,fun _=>none⟩ (iC h2) w ⟨G',fun _=>none⟩ (iC h') w')
  (hL:G' b2=some L) (hc:h'.m.get b2=some (.live true 1 cells)) (LA:∀k L1 di,k≠b->G k=some L1->h.m.get k=some di->BR G di L1 w'.heap[L1.b]?) (VZ:∀k L1 di,k≠b->G k=some L1->h.m.get k=some di->di.alive=true->L1.b≠L.b)
  (vj:w.heap.size<=L.b\/G b=some L) (ar:Nat.min h.low b<=h'.low) (Ye:∀v∈cells,∃a len k L1,v=.slice (some a) len k/\a.spot=none/\G a.block=some L1) :
  ∃G2,G2 h.next=some L/\(∀id L,G id=some L->G2 id=some L)/\Good ⟨G,fun _=>none⟩ (iC h) w ⟨G2,fun _=>none⟩ (iC ((h.kill b).push 1 cells)) w'/\fG (h.next<=·) G G2:=by
 let G2:Nat->Option Loc:=fun k=>if k=h.next then some L else G k
 have split:∀k L1,G2 k=some L1->(k=h.next/\L1=L)\/(k≠h.next/\G k=some L1):=fun k L1 h1=>by
  by_cases e:k=h.next
  ·left;simp only[G2,e,if_true,oi]at h1;exact⟨e,h1.symm⟩
  ·right;simp only[G2,e,if_false]at h1;exact⟨e,h1⟩
 have up:∀k L1,G k=some L1->G2 k=some L1:=fun k L1 h1=>by
  have:k<h.next:=hR.cU k L1 h1;simp only[G2,show ¬k=h.next by omega,if_false,h1]
 have get:∀k,((h.kill b).push 1 cells).m.get k=if h.next=k then some (.live true 1 cells)else if b=k then some .dead else h.m.get k:=fun k=>by
  show((h.m.set b .dead).set h.next _).get k=_;rw[cW.bO,cW.bO]
 have Ed:∀k di,k≠h.next->((h.kill b).push 1 cells).m.get k=some di->di=.dead\/(k≠b/\h.m.get k=some di):=fun k di hk q=>by
  rw[get,if_neg (fun e=>hk e.symm)]at q;by_cases e:b=k
  ·rw[if_pos e]at q;exact .inl (Option.some.inj q).symm
  ·rw[if_neg e]at q;exact .inr ⟨fun e'=>e e'.symm,q⟩
 refine⟨G2,by simp[G2],up,?_,fun k L1 h1=>?_⟩
 ·refine { hr:=?_,mono:=up,next:=by show h.next<=h.next+1;omega,low:=Nat.min_le_left _ _,size:=hG.size,os:=hG.os,tape:=hG.tape,output:=hG.output,fresh:=?_,cL:=(fun t L h=>by cases h),frame:=fun k hk mq hl=>hG.frame k hk (fun id L1 h0 he=>Nat.lt_of_lt_of_le (mq id L1 h0 he) ar) hl }
  ·refine { cU:=?_,dm:=?_,cK:=?_,dn:=?_,fe:=(fun t L h=>by cases h),dX:=(fun t L h=>by cases h),ff:=(fun t t' L L' h=>by cases h),sep:=(fun id t L L' _ h=>by cases h) }
   ·intro k L1 h1
    show k<h.next+1;rcases split k L1 h1 with ⟨e,_⟩|⟨_,h2⟩
    ·omega
    ·have:k<h.next:=hR.cU k L1 h2;omega
   ·intro k L1 h1
    rcases split k L1 h1 with ⟨_,rfl⟩|⟨_,h2⟩
    ·exact hG.hr.dm b2 _ hL
    ·exact hG.hr.dm k L1 (hG.mono k L1 h2)
   ·intro k L1 b1 h1 h2
    rcases split k L1 h1 with ⟨rfl,rfl⟩|⟨hk,h3⟩
    ·have JK:((h.kill b).push 1 cells).m.get h.next=some b1:=h2
     rw[get,if_pos rfl]at JK;obtain rfl:=Option.some.inj JK;obtain⟨k1,cs,e,fr,k2,k3,k4⟩:=hG.hr.cK b2 _ _ hL hc;refine⟨k1,cs,e,fr,k2,fun i v hi=>?_,k4⟩;obtain⟨cv,q1,q2⟩:=k3 i v hi;obtain⟨a,len,kk,L1,rfl,g1,g2⟩:=Ye v (List.mem_of_getElem? hi);exact⟨cv,q1,(VG.Mi hG.mono g1 g2 q2).mono up⟩
    ·rcases Ed k b1 hk h2 with rfl|⟨Ux,q⟩
     ·trivial
     ·exact(LA k L1 b1 Ux h3 q).mono up
   ·intro k k' L1 L2 b1 AW h1 h2 h3 h4 a1 a2 he
    rcases split k L1 h1 with ⟨e1,rfl⟩|⟨e1,g1⟩<;>rcases split k' L2 h2 with ⟨e2,rfl⟩|⟨e2,g2⟩
    ·rw[e1,e2]
    ·rcases Ed k' AW e2 h4 with rfl|⟨Ux,q⟩
     ·cases a2
     ·exact absurd he.symm (VZ k' L2 AW Ux g2 q a2)
    ·rcases Ed k b1 e1 h3 with rfl|⟨Ux,q⟩
     ·cases a1
     ·exact absurd he (VZ k L1 b1 Ux g1 q a1)
    ·rcases Ed k b1 e1 h3 with rfl|⟨Ux,q⟩
     ·cases a1
     rcases Ed k' AW e2 h4 with rfl|⟨hkb2,q2⟩
     ·cases a2
     exact hR.dn k k' L1 L2 b1 AW g1 g2 q q2 a1 a2 he
  ·intro k L1 h1 h2
   rcases split k L1 h1 with ⟨_,rfl⟩|⟨_,h3⟩
   ·rcases vj with q|q
    ·exact .inl q
    ·exact .inr ⟨b,_,q,rfl,Nat.min_le_right _ _⟩
   ·have JK:G k=none:=h2
    rw[JK]at h3;cases h3
 ·rcases split k L1 h1 with ⟨e,_⟩|⟨_,h2⟩
  ·right;show h.next<=k;omega
  ·exact .inl h2
end Go.cV
namespace Go.cV
open Go.RowKit
theorem Ak{P : Program}{g : FuncId}{fn : Func}{tS tR e : TypeId}(hf : P.funcs[g]? = some fn)(cG : (fn.name == "runtime.NumGoroutine") = false)(hb : fn.body.isNone = true)(hn : Extern.findNext fn = none)
  (he:Extern.find fn=some (Extern.SlicesOverlaps.overlaps #[tS,tS] #[tR])) (ht:P.underlying tS=some (.slice e)) (hz:∀w,(Go.sizeOf e).run P w=.ok 1 w) (args:List Value) (h:af) (v:Value) (h':af) (hc:jS args h=some (v,h'))
  (G:Nat->Option Loc) (w:World) (aU:List Value) (hR:HR ⟨G,fun _=>none⟩ (iC h) w) (hA:fJ G args aU):te P g aU.toArray w (fun c w'=>∃G',VG G' v c/\Good ⟨G,fun _=>none⟩ (iC h) w ⟨G',fun _=>none⟩ (iC h') w'/\fG (h.next<=·) G G'):=by
 unfold jS at hc;split at hc
 ·rename_i a oa la ca b ob lb cb
  split at hc
  ·rename_i v1 r1 v2 r2 h1 h2
   revert hc
   cases Rp:Nat.beq a b with
   |true=>intro hc;cases hc
   |false=>
    intro hc;simp only[cond_false,oi,pj]at hc;obtain⟨rfl,rfl⟩:=hc;obtain⟨x1,l1,rfl,g1,hA⟩:=hA.head;obtain⟨x2,l2,rfl,g2,hA⟩:=hA.head;obtain rfl:l2=[]:=List.eq_nil_of_length_eq_zero hA.1.symm;rcases g1.dV with ⟨_,L1,c1,KM,rfl,_⟩|⟨_,⟨x,hx⟩,_⟩
    rotate_left
    ·cases hx
    rcases g2.dV with ⟨_,L2,c2,HL,rfl,_⟩|⟨_,⟨x,hx⟩,_⟩
    rotate_left
    ·cases hx
    obtain⟨_,vk,e1,f1,k1,k2,k3⟩:=hR.cK _ _ _ KM h1;obtain⟨_,V2,e2,f2,q1,q2,q3⟩:=hR.cK _ _ _ HL h2;obtain rfl:=k3 rfl;obtain rfl:=q3 rfl;have eO:L1.b≠L2.b:=fun q=>by
     have:=hR.dn a b L1 L2 _ _ KM HL h1 h2 rfl rfl q;rw[this,Nat.beq_refl]at Rp;cases Rp
    obtain⟨cv,z1,_⟩:=q2 0 v2 rfl;have KK:V2.size≠0:=by have:=(Array.getElem?_eq_some_iff.1 z1).1;omega
    refine .inr ⟨.bool false,w,?_,G,.of_flat rfl,.refl hR,.refl _ _⟩;show(callFunc g #[.slice (some ⟨L1.b,L1.o+oa,none⟩) la c1,.slice (some ⟨L2.b,L2.o+ob,none⟩) lb c2]).run P w=_;rw[run_callFunc_extern hf cG hb hn he,Lib.run_overlaps_apart w tS tR e ht 1 hz ⟨L1.b,L1.o+oa,none⟩ ⟨L2.b,L2.o+ob,none⟩ la c1 lb c2 eO e1 e2 vk.size V2.size (by unfold World.shape?;simp only[k1]) (by unfold World.shape?;simp only[q1]) KK (by unfold World.frozen?;simp only[k1];simp) (by unfold World.frozen?;simp only[k1];simp)];rfl
  ·cases hc
 ·cases hc
end Go.cV
namespace Go.cV
open Go.RowKit
theorem qp{P:Program}{H:Hint}{call:cF}{f:FuncId}{nt:Nat}{ops:Array Oper}{o:Oper}{rest:List Oper}{s s':St}{v:Value}{d:Tmp}(hg:o.guard=none)(hd:o.dst=some d)(XY:d<nt)(h1:sf P H call f o s=some (v,s))(h:lP P H call f nt ops rest { s with env:=s.env.set d v }=some s') :
  lP P H call f nt ops (o :: rest) s=some s':=by
 have hw:jr ops o s=some true:=by unfold jr;rw[hg]
 have hbl:Nat.blt d nt=true:=bz XY;simp only[lP,hw,h1,hd,se,hbl,cond_true];exact h
theorem rI.room{P:Unit->Program}{nt id:Nat}(Uy:32<=nt){ti tj tk tl e:TypeId}{o1 o2 o3 o4 o5 o6:Oper}{ops:Array Oper}(zV:ops.toList=[o1,o2,o3,o4,o5,o6])
  (p1:o1.op=.move (.tmp 8)) (p2:o2.op=.move (.tmp 7)) (p3:o3.op=.binOp .add ti (.tmp 26) (.tmp 27) tj) (p4:o4.op=.move (.tmp 0)) (p5:o5.op=.call { callee:=.builtin .cap,args:=#[.tmp 29],argTypes:=#[tl] }) (p6:o6.op=.binOp .gtr ti (.tmp 28) (.tmp 30) tk)
  (d1:o1.dst=some 26) (d2:o2.dst=some 27) (d3:o3.dst=some 28) (d4:o4.dst=some 29) (d5:o5.dst=some 30) (d6:o6.dst=some 31) (g1:o1.guard=none) (g2:o2.guard=none) (g3:o3.guard=none) (g4:o4.guard=none) (g5:o5.guard=none) (g6:o6.guard=none)
  (ht:(P ()).underlying tl=some (.slice e)) {s:SS} {n b off k:Nat} (e8:lk s.env 8=some (.int .i64 n)) (e7:lk s.env 7=some (.int .i64 1)) (e0:lk s.env 0=some (.slice (some ⟨b,off,none⟩) n k)) (ar:∀p∈s.env,p.1<26) (hn:n<=1000) (hk:n+1<=cO k) {Q:Exit->SS->Prop}
  (h:Q .normal { s with env:=(31,.bool false) :: s.env }):rI P nt (.region id ops false) s Q:=by
 refine⟨?_⟩;intro t hs hl;have fE:gT (P ()) (fun _ _ _=>none):=⟨fun g args h v h' hc=>(by cases hc),fun g args h v h' hc=>(by cases hc)⟩;have t8:t.env.get 8=some (.int .i64 n):=hs.env _ _ e8;have t7:t.env.get 7=some (.int .i64 1):=hs.env _ _ e7;have t0:t.env.get 0=some (.slice (some ⟨b,off,none⟩) n k):=hs.env _ _ e0;have V3:∀{o:Oper} {s:St} {v:Value},dU o.op=none->gE (P ()) s.new (fj Bs 0 o) o.op s=some (v,s)->sf (P ()) Bs (fun _ _ _=>none) 0 o s=some (v,s):=fun h1 h2=>by unfold sf;rw[h1];exact h2
 have w1:IntKind.wrap .i64 ((n:Int)+1)=(n:Int)+1:=wrap64 om om;refine WN.cap (H:=Bs) (f:=0) fE (pre:=[o1,o2,o3,o4]) (rest:=[o6]) zV p5 d5 (Nat.lt_of_lt_of_le (by decide) Uy) g5 ht (s1:={ t with env:=(((t.env.set 26 (.int .i64 n)).set 27 (.int .i64 1)).set 28 (.int .i64 ((n:Int)+1))).set 29 (.slice (some ⟨b,off,none⟩) n k) }) ?_ (b:=b) (off:=off) (n:=n) (k:=k) ?_ (fun c hc=>?_)
 ·refine qp g1 d1 (Nat.lt_of_lt_of_le (by decide) Uy) (V3 (by rw[p1];rfl) (v:=.int .i64 n) (by rw[p1];simp only[gE,bJ,t8])) ?_
  refine qp g2 d2 (Nat.lt_of_lt_of_le (by decide) Uy) (V3 (by rw[p2];rfl) (v:=.int .i64 1) (by rw[p2];simp only[gE,bJ,cW.bO];simp[t7])) ?_;refine qp g3 d3 (Nat.lt_of_lt_of_le (by decide) Uy) (V3 (by rw[p3];rfl) (v:=.int .i64 ((n:Int)+1)) (by rw[p3];simp only[gE,bJ,cW.bO];simp[wZ,vi,w1])) ?_;refine qp g4 d4 (Nat.lt_of_lt_of_le (by decide) Uy) (V3 (by rw[p4];rfl) (v:=.slice (some ⟨b,off,none⟩) n k) (by rw[p4];simp only[gE,bJ,cW.bO];simp[t0])) ?_;rfl
 ·simp only[bJ,cW.bO];simp
 ·have dW:(decide ((c:Int)<(n:Int)+1))=false:=by simp;omega
  refine⟨_,qp g6 d6 (Nat.lt_of_lt_of_le (by decide) Uy) (V3 (by rw[p6];rfl) (v:=.bool false) (by rw[p6];simp only[gE,bJ,cW.bO];simp[wZ,vi];omega)) rfl,{ s with env:=(31,.bool false) :: s.env },⟨fun i v hv=>?_,hs.K,hs.kn,hs.h⟩,hl,h⟩;show((((((t.env.set 26 _).set 27 _).set 28 _).set 29 _).set 30 _).set 31 _).get i=some v;simp only[k9]at hv;rw[cW.bO];by_cases c1:31=i
  ·rw[if_pos c1]at hv ⊢;exact hv
  ·rw[if_neg c1]at hv ⊢
   have hi:i<26:=ar _ (Gw hv);simp only[cW.bO];rw[if_neg om,if_neg om,if_neg om,if_neg om,if_neg om];exact hs.env i v hv
end Go.cV
namespace Go.cV
open Go.RowKit
theorem VG.back{G G':Nat->Option Loc}(hm:∀id L,G id=some L->G' id=some L){v c0:Value}(h0:VG G v c0):∀c,VG G' v c->VG G v c:=by
 induction h0 with
 |flat v h=>intro c hc;rw[VG.yF hc h];exact .flat v h
 |zS _=>intro c _;exact .zS c
 |ptr a L hs h=>
  intro c hc;have e:=hm _ _ h;cases hc with
  |flat _ h'=>simp[bm]at h'
  |ptr _ L' _ h'=>rw[e]at h';obtain rfl:=Option.some.inj h';exact .ptr a L hs h
 |gP a L len k hs h uu=>intro c hc;exact VG.Mi hm hs h hc
 |gZ a L len m c' hs h _ _ _=>intro c hc;exact VG.Mi hm hs h hc
 |kC a a' x hs=>
  intro c hc;rcases hc.dV with ⟨rG,_⟩|⟨_,⟨x2,h2⟩,a2,c2,rfl,q⟩
  ·rw[hs]at rG;cases rG
  ·rcases q with ⟨_,rfl⟩|q
   ·exact .kC a a2 x hs
   ·unfold aS at q;omega
 |jN a a' x c1 hs=>
  intro c hc;rcases hc.dV with ⟨rG,_⟩|⟨_,⟨x2,h2⟩,a2,c2,rfl,q⟩
  ·rw[hs]at rG;cases rG
  ·exact .jN a a2 x c2 hs
 |xk id L h=>
  intro c hc;have e:=hm _ _ h;cases hc with
  |flat _ h'=>simp[bm]at h'
  |xk _ L' h'=>rw[e]at h';obtain rfl:=Option.some.inj h';exact .xk id L h
 |yield y L h=>
  intro c hc;have e:=hm _ _ h;cases hc with
  |flat _ h'=>simp[bm]at h'
  |yield _ L' h'=>rw[e]at h';obtain rfl:=Option.some.inj h';exact .yield y L h
 |func f x y x' y' hx hy h1 h2 YX YY=>
  intro c hc;cases hc with
  |flat _ h'=>simp[bm]at h'
  |func _ _ _ x2 y2 FM Uz k1 k2=>
   refine .func f x y x2 y2 FM Uz (fun i u v hu hv=>?_) (fun i u v hu hv=>?_)
   ·have:=(List.getElem?_eq_some_iff.1 hu).1
    exact YX i u _ hu (List.getElem?_eq_getElem om) v (k1 i u v hu hv)
   ·have:=(List.getElem?_eq_some_iff.1 hu).1
    exact YY i u _ hu (List.getElem?_eq_getElem om) v (k2 i u v hu hv)
 |agg x x' hx h1 ih=>
  intro c hc;cases hc with
  |flat _ h'=>simp[bm]at h'
  |agg _ x2 FM k1=>
   refine .agg x x2 FM (fun i u v hu hv=>?_);have:=(List.getElem?_eq_some_iff.1 hu).1;exact ih i u _ hu (List.getElem?_eq_getElem om) v (k1 i u v hu hv)
 |tuple x x' hx h1 ih=>
  intro c hc;cases hc with
  |flat _ h'=>simp[bm]at h'
  |tuple _ x2 FM k1=>
   refine .tuple x x2 FM (fun i u v hu hv=>?_);have:=(List.getElem?_eq_some_iff.1 hu).1;exact ih i u _ hu (List.getElem?_eq_getElem om) v (k1 i u v hu hv)
theorem BR.back{G G':Nat->Option Loc}(hm:∀id L,G id=some L->G' id=some L){b:C7}{L:Loc}{o0 o:Option Obj}(h0:BR G b L o0)(h:BR G' b L o):BR G b L o:=by
 cases b with
 |dead=>trivial
 |live wr es cells=>
  obtain⟨_,KL,e0,f0,_,q3,_⟩:=h0;obtain⟨h1,cs,e,fr,h2,h3,h4⟩:=h;refine⟨h1,cs,e,fr,h2,fun i v hi=>?_,h4⟩;obtain⟨c0,_,k2⟩:=q3 i v hi;obtain⟨c,r1,r2⟩:=h3 i v hi;exact⟨c,r1,k2.back hm c r2⟩
 |map es=>
  obtain⟨ces0,_,_,q2⟩:=h0;obtain⟨mA,clock,h1,h2⟩:=h;refine⟨mA,clock,h1,h2.1,fun i e c he hc=>⟨(h2.2 i e c he hc).1,?_⟩⟩;have:=(List.getElem?_eq_some_iff.1 he).1;exact(q2.2 i e _ he (List.getElem?_eq_getElem (by rw[<-q2.1];exact this))).2.back hm _ (h2.2 i e c he hc).2
 |loop st nQ f nt env ps assign body=>
  obtain⟨_,_,_,_,_,_,_,q4⟩:=h0;obtain⟨fn,tmps,params,D,h1,h2,h3,h4⟩:=h;refine⟨fn,tmps,params,D,h1,h2,h3,fun t v hv=>⟨(h4 t v hv).1,(q4 t v hv).2.back hm _ (h4 t v hv).2⟩⟩
