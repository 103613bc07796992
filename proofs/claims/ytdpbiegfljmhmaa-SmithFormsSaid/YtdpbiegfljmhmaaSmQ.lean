import Derived.Test.YtdpbiegfljmhmaaFracA
import Derived.Test.YtdpbiegfljmhmaaSymSlc
import Derived.Test.YtdpbiegfljmhmaaSmO
set_option linter.unusedSimpArgs false
set_option linter.unusedVariables false
namespace Go.Sim
theorem Cells.part{h:AHeap}{a:Option Addr}{n es:Nat}{cells:List Value}(c:Cells h a n es cells){i m:Nat}(hi:i+m<=n):Cells h (a.map (aadd · (i*es))) m es ((cells.drop (i*es)).take (m*es)):=by
 have hlen:=c.length;have hm:i*es+m*es<=n*es:=by rw[<-Nat.add_mul];exact Nat.mul_le_mul_right es hi
 cases a with
 |none=>
  obtain⟨rfl,rfl⟩:=c;exact⟨by omega,by simp⟩
 |some ad=>
  obtain⟨h1,h2,h3⟩:=c;obtain⟨b,o,sp⟩:=ad;simp only at h1;subst h1;refine⟨rfl,h2,?_⟩;unfold AHeap.readG aadd at *;simp only[]at h3 ⊢;split at h3
  ·rename_i cs hcs
   obtain⟨e1,e2⟩:=readN_eq h3;refine readN_some ?_ ?_
   ·subst e1
    rw[List.drop_take,List.take_take,List.drop_drop,Nat.min_eq_left (by omega)]
   ·simp only[List.length_take,List.length_drop];omega
  ·cases h3
theorem Cells.head{h:AHeap}{a:Option Addr}{n es:Nat}{cells:List Value}(c:Cells h a n es cells){m:Nat}(hm:m<=n):Cells h a m es (cells.take (m*es)):=by
 have:=c.part (i:=0) (m:=m) (by omega);rw[Nat.zero_mul,List.drop_zero]at this;cases a with
 |none=>exact this
 |some ad=>exact this
theorem flat_takeN{α:Type}{enc:α->List Value}{es:Nat}(he:∀x,(enc x).length=es)(l:List α)(k:Nat):(l.flatMap enc).take (k*es)=(l.take k).flatMap enc:=by
 induction l generalizing k with
 |nil=>simp
 |cons x l ih=>
  cases k with
  |zero=>simp
  |succ k=>rw[List.flatMap_cons,List.take_succ_cons,List.flatMap_cons,List.take_append,he,List.take_of_length_le (by rw[he,Nat.succ_mul];omega),show(k+1)*es-es=k*es by rw[Nat.succ_mul];omega,ih]
theorem flat_dropN{α:Type}{enc:α->List Value}{es:Nat}(he:∀x,(enc x).length=es)(l:List α)(k:Nat):(l.flatMap enc).drop (k*es)=(l.drop k).flatMap enc:=by
 induction l generalizing k with
 |nil=>simp
 |cons x l ih=>
  cases k with
  |zero=>simp
  |succ k=>rw[List.flatMap_cons,List.drop_succ_cons,List.drop_append,he,List.drop_of_length_le (by rw[he,Nat.succ_mul];omega),show(k+1)*es-es=k*es by rw[Nat.succ_mul];omega,ih,List.nil_append]
def Feed(P:Program)(h:AHeap)(e es:Nat)(a:Option Addr)(n c:Nat)(news:List Value):Prop:=newsA P h e es false (.slice a n c)=some (n,news)/\news.length=n*es
theorem Feed.of{P:Program}{h:AHeap}{e es:Nat}{a:Option Addr}{n:Nat}{news:List Value}(c:Nat)(hs:Cells h a n es news):Feed P h e es a n c news:=by
 refine⟨?_,hs.length⟩;unfold newsA;simp only[cond_false];cases a with
 |none=>obtain⟨rfl,rfl⟩:=hs;simp
 |some ad=>
  obtain⟨h1,h2,h3⟩:=hs;simp only[h3]
theorem Feed.nothing(P:Program)(h:AHeap)(e es:Nat)(x c:Nat):Feed P h e es (some ⟨0,0,some x⟩) 0 c []:=by
 refine⟨?_,by simp⟩;unfold newsA AHeap.readG;rfl
theorem append_any3{P:Program}{t t2 e es:Nat}(hT:SliceT P t e es)(ht2:P.underlying t2=some (.slice e)){h:AHeap}{b n c n2 c2:Nat}{a2:Option Addr}{cells news:List Value}(hp:Own2 h es b n c cells)(hs:Feed P h e es a2 n2 c2 news)(hok:cells.all cellOK=true)(hok2:news.all cellOK=true)(hbig:n+n2<=1000000) :
  ∃b' c' h',appendH P h [t,t2] [.slice (some ⟨b,0,none⟩) n c,.slice a2 n2 c2]=some (.slice (some ⟨b',0,none⟩) (n+n2) c',h')/\Own2 h' es b' (n+n2) c' (cells++news)/\h.next<=h'.next/\(b'=b\/h.next<=b')/\(∀j,j<h.next->j≠b->h'.m.get j=h.m.get j)/\(∀h0,Ext h0 h->h0.next<=b->Ext h0 h'/\h0.next<=b'):=by
 obtain⟨ho,hb,hl,hc⟩:=hp;obtain⟨by_,hby,hby2⟩:=hT.bytes;obtain⟨z,hz,hz2⟩:=hT.zero;obtain⟨hnews,hnl⟩:=hs;have hcl:capLow c=n:=by
  rcases hc with ⟨rfl,rfl⟩|rfl
  ·rfl
  ·exact capLow_some (by unfold slack;omega)
 unfold appendH;simp only[hT.und,hT.size,hby,ht2,hz,isIntDesc,hnews];rw[hcl];by_cases h0:n2=0
 ·subst h0
  have:news=[]:=by simpa using hnl
  subst this;obtain⟨h',hw,ho',hw2⟩:=ho.write (o:=n*es) (vs:=[]) (by simp;omega);have hwg:h.writeG (aadd ⟨b,0,none⟩ (n*es)) []=some h':=by
   unfold AHeap.writeG aadd;simp only[List.all_nil,cond_true,Nat.zero_add];exact hw
  rw[ble_true (show n+0<=n by omega)];simp only[cond_true,hwg];have e2:cells.take (n*es)++([]++cells.drop (n*es+([]:List Value).length))=cells:=by simp
  rw[e2]at ho';exact⟨b,c,h',rfl,⟨by simpa using ho',by rw[hw2.next];exact hb,by simpa using hl,hc⟩,by rw[hw2.next];exact Nat.le_refl _,.inl rfl,fun j _ j1=>hw2.get j j1,fun h0 e0 hb0=>⟨hw2.ext e0 hb0,hb0⟩⟩
 ·rw[ble_false (by omega)]
  simp only[cond_false];rw[ble_true (show n+n2<=1073741824 by omega),ble_true hby2,hok2,hz2,hnl];simp only[Bool.and_self,Nat.beq_refl,cond_true];have hr:h.readG ⟨b,0,none⟩ (n*es)=some cells:=by rw[ho.readG (by omega)];simp[<-hl]
  simp only[hr];rcases hc with ⟨rfl,rfl⟩|rfl
  ·rw[blt_true (show 0<slack by unfold slack;omega),hok]
   simp only[cond_true];refine⟨_,_,_,rfl,⟨Own.push _ _ _,by simp[AHeap.push],by simp[hl,hnl],.inr rfl⟩,by simp[AHeap.push],.inr (Nat.le_refl _),fun j j0 _=>(Ext.push h es _).get j j0,fun h0 e0 hb0=>⟨e0.trans (.push _ _ _),e0.next⟩⟩
  ·rw[blt_false (someCap_ge es n),hok]
   simp only[cond_false,cond_true];rw[show h.m.get b=some (.live true es cells)from ho];simp only[Nat.beq_refl,cond_true];refine⟨_,_,_,rfl,⟨Own.push (h.kill b) es _,by simp[AHeap.push,AHeap.kill],by simp[hl,hnl,Nat.add_mul],.inr rfl⟩,by simp[AHeap.push,AHeap.kill],.inr (Nat.le_refl _),fun j j0 j1=>?_,fun h0 e0 hb0=>⟨(e0.kill hb0).trans (.push _ _ _),?_⟩⟩
   ·have k1:(h.kill b).m.get j=h.m.get j:=by unfold AHeap.kill;simp only[];rw[Tri.get_set_ne _ _ (fun q=>j1 q.symm)]
    rw[<-k1];exact(Ext.push (h.kill b) es _).get j (by unfold AHeap.kill;exact j0)
   ·exact e0.next
end Go.Sim
namespace Go.Proofs.Ytdpbiegfljmhmaa
open Go.Sim
set_option maxRecDepth 100000
variable{F:Prims}{call head arith cmp scmp bnot bsame conv neg imax imin ofNat slen place inR nz geZ rd wr push next mkOK nat zeros sadd eqAgg cut slc sslc strAt part app cpy putAt fresh lowered bump wrote addN lt ne fpAll fpApp brk yn rng mget mput mnew bytes clr:_}(hA:AP F ⟨call,head,arith,cmp,scmp,bnot,bsame,conv,neg,imax,imin,ofNat,slen,place,inR,nz,geZ,rd,wr,push,next,mkOK,nat,zeros,sadd,eqAgg,cut,slc,sslc,strAt,part,app,cpy,putAt,fresh,lowered,bump,wrote,addN,lt,ne,fpAll,fpApp,brk,yn,rng,mget,mput,mnew,bytes,clr⟩)
include hA
theorem slc_from{t:TypeId}{e es:Nat}(hT:SliceT Try.prog t e es){h:AHeap}{a:Option Addr}{n c:Nat}(hn:n<=1000000)(hc:c=someCap es n\/(n=0/\a=none/\c=0)){cells:List Value}(hs:Cells h a n es cells){k:IntKind}{i:Nat}(hi:i<=n){C:Option Addr->Nat->Nat->Prop}
  (hC:∀a' c',(∀h',Ext h h'->Feed Try.prog h' e es a' (n-i) c' (cells.drop (i*es)))->C a' (n-i) c'):slc t (.slice a n c) (some (.int k i)) none none C:=by
 have e_slc:slc t (.slice a n c) (some (.int k i)) none none C = ∃a' n' c',sliceA Try.prog t (.slice a n c) (some (.int k i)) none none=some (.slice a' n' c')/\C a' n' c':=by have:=hA.eq;injections;subst_vars;rfl
 have hlen:=hs.length;rw[e_slc];unfold sliceA;simp only[hT.und,hT.size];unfold sliceS;simp only[boundMx,boundHi,boundLo,bound];rcases hc with rfl|⟨rfl,rfl,rfl⟩
 ·have hsl:n<slack:=by unfold slack;omega
  rw[if_pos ⟨by omega,by omega⟩];simp only[];rw[capLow_some hsl,ble_true (Nat.le_refl _),blt_false (someCap_ge es n),someCap_div hsl];simp only[cond_true,cond_false,Option.isSome_none,Bool.or_false,Int.toNat_natCast];by_cases c0:i=0
  ·subst c0
   rw[show Nat.beq 0 0=true from rfl];simp only[cond_true];refine⟨_,_,_,rfl,hC _ _ (fun h' x=>?_)⟩;rw[Nat.zero_mul,List.drop_zero];exact Feed.of _ (hs.ext x)
  rw[nbeq c0];simp only[cond_false];by_cases c1:i<n
  ·rw[blt_true c1]
   simp only[Bool.true_and,Nat.beq_refl,cond_true];refine⟨_,_,_,rfl,hC _ _ (fun h' x=>?_)⟩;have:=(hs.ext x).part (i:=i) (m:=n-i) (by omega);rw[List.take_of_length_le (by rw[List.length_drop,hlen,Nat.sub_mul];omega)]at this;exact Feed.of _ this
  ·have e1:i=n:=by omega
   subst e1;rw[blt_false (Nat.le_refl _)];simp only[Bool.false_and,cond_false];rw[show Nat.beq i i=true by simp];simp only[cond_true,Nat.sub_self];refine⟨_,_,_,rfl,?_⟩;have:=hC (some ⟨0,0,some 0⟩) slack (fun h' _=>by
    rw[Nat.sub_self,List.drop_of_length_le (by omega)];exact Feed.nothing _ _ _ _ _ _)
   rwa [Nat.sub_self]at this
 ·obtain rfl:i=0:=by omega
  obtain⟨_,rfl⟩:=hs;rw[if_pos ⟨by omega,by simp⟩];simp only[];refine⟨none,0,0,rfl,?_⟩;exact hC none 0 (fun h' _=>by simpa using Feed.of (P:=Try.prog) (h:=h') (e:=e) (es:=es) 0 (show Cells h' none 0 es []from⟨rfl,rfl⟩))
theorem appFE_ok{t e es:Nat}(hT:SliceT Try.prog t e es){X:AHeap}{b n c n2 c2:Nat}{a2:Option Addr}{cells news:List Value}(hp:Own2 X es b n c cells)(hok:cells.all cellOK=true)(hs:Feed Try.prog X.freshed e es a2 n2 c2 news)(hok2:news.all cellOK=true)(hn:n+n2<=1000000){C:Option Addr->Nat->Nat->AHeap->Prop}
  (hC:∀b' c' h',Own2 (lowered X h') es b' (n+n2) c' (cells++news)->(b'=b\/X.next<=b')->(∀h0,Ext h0 X->h0.low<=h0.next->h0.next<=b->Ext h0 (lowered X h')/\h0.next<=b')->C (some ⟨b',0,none⟩) (n+n2) c' h') :
  app [t,t] [.slice (some ⟨b,0,none⟩) n c,.slice a2 n2 c2] (fresh X) C:=by
 simp only[e_lowered hA]at hC;rw[e_fresh hA,e_app hA];obtain⟨b',c',h',h1,h2,h3,h4,h5,h6⟩:=append_any3 hT hT.und (show Own2 X.freshed es b n c cells from hp) hs hok hok2 hn;refine⟨_,n+n2,c',h',h1,hC b' c' h' h2 h4 (fun h0 x l0 x2=>?_)⟩;obtain⟨y1,y2⟩:=h6 h0 (x.trans (Ext.freshed _)) x2;exact⟨Ext.lower' y1 x l0,y2⟩
end Go.Proofs.Ytdpbiegfljmhmaa
namespace Go.Proofs.Ytdpbiegfljmhmaa
open Go.Sim
set_option maxRecDepth 100000
theorem RowsB.perm{h0 h:AHeap}{n w:Nat}{bs:Nat->Nat}{F:Nat->Ext.Vec}(t:RowsB h0 h n w bs F){σ:Nat->Nat}(hs:∀y,y<n->σ y<n)(hi:∀y z,y<n->z<n->σ y=σ z->y=z):RowsB h0 h n w (fun y=>bs (σ y)) (fun y=>F (σ y)):=
 ⟨t.ext,fun y hy=>t.row _ (hs y hy),fun y hy=>t.old _ (hs y hy),fun y hy=>t.lt _ (hs y hy),fun y z hy hz e=>hi y z hy hz (t.inj _ _ (hs y hy) (hs z hz) e)⟩
theorem swN_lt{a b n:Nat}(ha:a<n)(hb:b<n):∀y,y<n->swN a b y<n:=fun y hy=>by unfold swN;split<;>(try split)<;>omega
theorem swN_inj{a b:Nat}(y z:Nat)(q:swN a b y=swN a b z):y=z:=by unfold swN at q;split at q<;>(try split at q)<;>(try split at q)<;>(try split at q)<;>omega
theorem Stm.swap{h0 h:AHeap}{sb k w rc:Nat}{ra:Option Addr}{bs:Nat->Nat}{F:Nat->Ext.Vec}(t:Stm h0 h sb k (k+1) w ra rc bs F){a:Nat}(ha:a<k) :
  ∃b h2,ra=some ⟨b,0,none⟩/\h.write b (0+a*1) [.slice (some ⟨bs k,0,none⟩) w (someCap 1 w)]=some h2/\Stm h0 h2 sb k (k+1) w ra rc (fun y=>bs (swN a k y)) (fun y=>F (swN a k y)):=by
 rcases t.apd with ⟨_,q,_⟩|⟨b,rfl,ec,hb,hl,ho⟩
 ·omega
 have hlen:(hdS bs w k).length=k:=lst_len _ _;obtain⟨h2,w1,w2,w3⟩:=Own.setRow ho hd_len (i:=a) (by rw[hlen];exact ha) (⟨some ⟨bs k,0,none⟩,w,someCap 1 w⟩:Hd);have hnr:=t.nra ⟨b,0,none⟩ rfl;have e:(hdS bs w k).set a ⟨some ⟨bs k,0,none⟩,w,someCap 1 w⟩=hdS (fun y=>bs (swN a k y)) w k:=by
  unfold hdS;rw[lst_set];refine lst_congr (fun y hy=>?_);by_cases c:y=a
  ·simp only[swN,if_pos c]
  ·simp only[swN,if_neg c,if_neg (show ¬y=k by omega)]
 rw[e]at w2;have hp:=t.rows.perm (swN_lt (a:=a) (b:=k) (n:=k+1) (by omega) (by omega)) (fun y z _ _ q=>swN_inj y z q);have xe:Ext h0 h2:=w3.ext t.rows.ext (t.fr _ rfl);refine⟨b,h2,rfl,by rw[Nat.zero_add];exact w1,⟨hp.keep xe (by rw[w3.next];exact Nat.le_refl _) (fun y hy=>w3.get _ (fun q=>hnr.2 _ (swN_lt (a:=a) (b:=k) (n:=k+1) (by omega) (by omega) y hy) q.symm)),t.own.of_get (w3.get _ (fun q=>hnr.1 q.symm)),?_,t.kn,t.s0,by rw[w3.next];exact t.s1,t.fr,fun y hy=>t.nsb _ (swN_lt (by omega) (by omega) y hy),fun ad had=>?_⟩⟩
 ·refine .inr ⟨b,rfl,ec,by rw[w3.next];exact hb,?_,w2⟩
  rw[flatE_len hd_len];unfold hdS;rw[lst_len]
 ·cases had
  exact⟨hnr.1,fun y hy=>hnr.2 _ (swN_lt (by omega) (by omega) y hy)⟩
def insN(a k:Nat):Nat->Nat:=fun y=>if y<a then y else if y=a then k else y-1
theorem insN_lt{a k:Nat}(ha:a<=k):∀y,y<k+1->insN a k y<k+1:=fun y hy=>by unfold insN;split<;>(try split)<;>omega
theorem insN_inj{a k:Nat}(ha:a<=k)(y z:Nat)(hy:y<k+1)(hz:z<k+1)(q:insN a k y=insN a k z):y=z:=by unfold insN at q;split at q<;>(try split at q)<;>(try split at q)<;>(try split at q)<;>omega
theorem hd_ins{bs:Nat->Nat}{w k a:Nat}(ha:a<=k):(hdS bs w k).take a++(⟨some ⟨bs k,0,none⟩,w,someCap 1 w⟩:Hd) :: (hdS bs w k).drop a=hdS (fun y=>bs (insN a k y)) w (k+1):=by
 have hlen:(hdS bs w k).length=k:=lst_len _ _;apply List.ext_getElem?;intro j;have ht:((hdS bs w k).take a).length=a:=by rw[List.length_take,hlen,Nat.min_eq_left ha]
 by_cases c:j<k+1
 ·rw[show(hdS (fun y=>bs (insN a k y)) w (k+1))[j]?=_ from lst_at _ c]
  rcases Nat.lt_trichotomy j a with q|q|q
  ·rw[List.getElem?_append_left (by omega),List.getElem?_take,if_pos q]
   unfold hdS;rw[lst_at _ (by omega)];simp only[insN,if_pos q]
  ·rw[List.getElem?_append_right (by omega),ht,q,Nat.sub_self]
   simp only[insN,if_neg (show ¬a<a by omega),if_true];rfl
  ·rw[List.getElem?_append_right (by omega),ht,show j-a=(j-a-1)+1 by omega,List.getElem?_cons_succ,List.getElem?_drop,show a+(j-a-1)=j-1 by omega]
   unfold hdS;rw[lst_at _ (by omega)];simp only[insN,if_neg (show ¬j<a by omega),if_neg (show ¬j=a by omega)]
 ·rw[List.getElem?_eq_none (by rw[List.length_append,List.length_cons,ht,List.length_drop,hlen];omega),List.getElem?_eq_none (by unfold hdS;rw[lst_len];omega)]
theorem insR_perm{F:Nat->Ext.Vec}{a k:Nat}(ha:a<=k):∀y,y<k+1->F (insN a k y)=Ext.insR F a (F k) y:=fun y hy=>by
 unfold insN Ext.insR;by_cases c:y<a
 ·rw[if_pos c,if_pos c]
 ·rw[if_neg c,if_neg c]
  by_cases c2:y=a
  ·rw[if_pos c2,if_pos c2]
  ·rw[if_neg c2,if_neg c2]
theorem Stm.ins{h0 h h2:AHeap}{sb k w rc:Nat}{ra:Option Addr}{bs:Nat->Nat}{F:Nat->Ext.Vec}(t:Stm h0 h sb k (k+1) w ra rc bs F){a:Nat}(ha:a<=k){b:Nat}(hx:Ext h0 h2)(hn:h.next<=h2.next)(hg:∀i,i<h.next->(∀ad,ra=some ad->ad.block≠i)->h2.m.get i=h.m.get i)(hb:h.next<=b)(hb2:b<h2.next)
  (ho:Own h2 b 1 (((hdS bs w k).take a++(⟨some ⟨bs k,0,none⟩,w,someCap 1 w⟩:Hd) :: (hdS bs w k).drop a).flatMap Hd.cells)) :
  ∃h3,h2.write sb 0 [.slice (some ⟨b,0,none⟩) (k+1) (someCap 1 (k+1))]=some h3/\Stm h0 h3 sb (k+1) (k+1) w (some ⟨b,0,none⟩) (someCap 1 (k+1)) (fun y=>bs (insN a k y)) (fun y=>F (insN a k y)):=by
 rw[hd_ins ha]at ho;have os:Own h2 sb 1 [.slice ra k rc]:=t.own.of_get (hg sb t.s1 (fun ad had=>(t.nra ad had).1));obtain⟨h3,w1,w2,w3⟩:=os.write (o:=0) (vs:=[.slice (some ⟨b,0,none⟩) (k+1) (someCap 1 (k+1))]) (Nat.le_refl _);have s0:=t.s0;have s1:=t.s1;have hp:=t.rows.perm (insN_lt ha) (insN_inj ha);have x3:Ext h0 h3:=w3.ext hx s0;refine⟨h3,w1,hp.keep x3 (by rw[w3.next];exact hn) (fun y hy=>?_),w2,.inr ⟨b,rfl,rfl,by rw[w3.next];exact hb2,?_,ho.of_get (w3.get _ (by omega))⟩,Nat.le_refl _,s0,by rw[w3.next];omega,?_,fun y hy=>t.nsb _ (insN_lt ha y hy),fun ad had=>?_⟩
 ·have hy':=insN_lt ha y hy
  rw[w3.get _ (t.nsb _ hy'),hg _ (t.rows.lt _ hy') (fun ad had=>(t.nra ad had).2 _ hy')]
 ·rw[flatE_len hd_len];unfold hdS;rw[lst_len]
 ·intro ad had;cases had;have:=t.rows.ext.next;show h0.next<=b;omega
 ·cases had
  exact⟨by show b≠sb;omega,fun y hy=>by have:=t.rows.lt _ (insN_lt ha y hy);show b≠_;omega⟩
variable{F:Prims}{call head arith cmp scmp bnot bsame conv neg imax imin ofNat slen place inR nz geZ rd wr push next mkOK nat zeros sadd eqAgg cut slc sslc strAt part app cpy putAt fresh lowered bump wrote addN lt ne fpAll fpApp brk yn rng mget mput mnew bytes clr:_}(hA:AP F ⟨call,head,arith,cmp,scmp,bnot,bsame,conv,neg,imax,imin,ofNat,slen,place,inR,nz,geZ,rd,wr,push,next,mkOK,nat,zeros,sadd,eqAgg,cut,slc,sslc,strAt,part,app,cpy,putAt,fresh,lowered,bump,wrote,addN,lt,ne,fpAll,fpApp,brk,yn,rng,mget,mput,mnew,bytes,clr⟩)
include hA
theorem find_loop{h0 h:AHeap}(hl0:h0.low<=h0.next){sb k n w rc c r:Nat}{ra:Option Addr}{bs:Nat->Nat}{F:Nat->Ext.Vec}(hk:k<=10)(hr:r<n)(hw:w<=1000)(m:Stm h0 h sb k n w ra rc bs F){C:Int}(eC:C=c){cw:Nat}(ecw:cw=someCap 1 w){Q:Exit->SS->Prop}
  (hQ:∀(kn:Nat) (T:List (Nat×List Value)) (a:Nat) (I:Int),I=a->a<=k->(∀y,y<a->Ext.leadV w (F y)<c)->(a<k->c<=Ext.leadV w (F a))->Q (.exit 2) ⟨[(0,.pointer (some ⟨sb,0,none⟩)),(1,.slice (some ⟨bs r,0,none⟩) w cw),(4,.func (.func 98) #[.pointer (some ⟨sb,0,none⟩)] #[]),(5,.int .i64 C),(6,.int .i64 I)],kn,T,h⟩) :
  ∀(d j:Nat) (J:Int),k-j<=d->j<=k->J=j->(∀y,y<j->Ext.leadV w (F y)<c)->
   head 85 5 0 ⟨[(0,.pointer (some ⟨sb,0,none⟩)),(1,.slice (some ⟨bs r,0,none⟩) w cw),(4,.func (.func 98) #[.pointer (some ⟨sb,0,none⟩)] #[]),(5,.int .i64 C),(6,.int .i64 J)],0,[],h⟩ Q:=by
 intro d;have hlow:h.low<=h.next:=m.rows.ext.lowOK hl0;obtain⟨K,eK⟩:∃z:Int,z=k:=⟨_,rfl⟩;have e1:ofNat k=K:=by rw[eK];exact e_ofNat hA k
 have r1:rd h sb (addN 0 0) 1 [.slice ra k rc]:=by rw[e_addN hA];exact rd_at hA (m.own.readG (o:=0) (n:=1) (Nat.le_refl _))
 have hkn:=m.kn
 induction d with
 |zero=>
  intro j J hd hj eJ hz;refine hA.roundR Try.func85 r85_ok (zc ?_)
  (refine zq ?_;repeat ((first|rw[e1]);refine zq ?_))
  refine br (J<K) (by rw[e_lss hA]) (fun q=>by omega) (fun _=>?_)<;>refine zc ?_;refine zq ?_;exact hQ _ _ j J eJ hj hz (fun q=>by omega)
 |succ d ih=>
 intro j J hd hj eJ hz;refine hA.roundR Try.func85 r85_ok (zc ?_)
 (refine zq ?_;repeat ((first|rw[e1]);refine zq ?_))
 refine br (J<K) (by rw[e_lss hA]) (fun cj=>?_) (fun cj=>?_)<;>refine zc ?_
 rotate_left
 ·refine zq ?_
  exact hQ _ _ j J eJ hj hz (fun q=>by omega)
 obtain⟨b,rfl,hb,q1⟩:=m.head (y:=j) (by omega);rw[<-ecw]at q1;have r2:rd h b (place 0 J 1) 1 [.slice (some ⟨bs j,0,none⟩) w cw]:=rd_ok hA (by rw[eJ];exact q1);refine zq ?_;refine lead_ok hA hlow hw (fun x hx=>m.rows.el (show j<n by omega) hx) (fun L eL=>⟨L,rfl,?_⟩);refine zq ?_;refine br (L<C) (by rw[e_lss hA]) (fun cl=>?_) (fun cl=>?_)<;>refine zc ?_
 ·refine zq ?_
  rw[add64 hA (by omega) (by omega)];exact ih (j+1) (J+1) (by omega) (by omega) (by omega) (fun y hy=>by
   by_cases e:y=j
   ·rw[e];omega
   ·exact hz y (by omega))
 ·refine zq ?_
  exact hQ _ _ j J eJ hj hz (fun _=>by omega)
end Go.Proofs.Ytdpbiegfljmhmaa
namespace Go.Proofs.Ytdpbiegfljmhmaa
open Go.Sim
set_option maxRecDepth 100000
structure InsC(F:Prims):Prop where
 ins:∀a h r,insertF a h=some r->F 100 a h=some r
 non:∀a h,insertF a h=none->F 100 a h=none
theorem prims0_ins:InsC prims0:=⟨fun a h r q=>by unfold prims0 withH;rw[Nat.beq_refl];simp only[cond_true,q],fun a h q=>by unfold prims0 withH;rw[Nat.beq_refl];simp only[cond_true,q];rfl⟩
theorem flat_map(l:List Hd):l.flatMap Hd.cells=l.map (fun d=>.slice d.a d.n d.c):=by
 induction l with
 |nil=>rfl
 |cons d l ih=>rw[List.flatMap_cons,ih];rfl
theorem insertF_end{ra:Option Addr}{k rc vb:Nat}(h:AHeap):insertF [.slice ra k rc,.int .i64 (k:Int),.slice (some ⟨vb,0,none⟩) 1 1] h=none:=by
 cases hc:insertF [.slice ra k rc,.int .i64 (k:Int),.slice (some ⟨vb,0,none⟩) 1 1] h with
 |none=>rfl
 |some p=>
  exfalso;obtain⟨b,n,i,vb2,cs,v,e,_,_,_,hi,_⟩:=insertF_spec (r:=p.1) (h':=p.2) hc;simp only[List.cons.injEq,Value.slice.injEq,Value.int.injEq]at e;obtain⟨⟨_,e1,_⟩,⟨_,e2⟩,_⟩:=e;have:(k:Int)=(i:Int):=e2;omega
theorem hd_okS(bs:Nat->Nat)(w k:Nat):((hdS bs w k).flatMap Hd.cells).all cellOK=true:=by
 rw[flat_map,List.all_eq_true];intro v hv;obtain⟨d,hd,rfl⟩:=List.mem_map.1 hv;unfold hdS lst at hd;obtain⟨y,_,rfl⟩:=List.mem_map.1 hd;rfl
variable{F:Prims}{call head arith cmp scmp bnot bsame conv neg imax imin ofNat slen place inR nz geZ rd wr push next mkOK nat zeros sadd eqAgg cut slc sslc strAt part app cpy putAt fresh lowered bump wrote addN lt ne fpAll fpApp brk yn rng mget mput mnew bytes clr:_}(hA:AP F ⟨call,head,arith,cmp,scmp,bnot,bsame,conv,neg,imax,imin,ofNat,slen,place,inR,nz,geZ,rd,wr,push,next,mkOK,nat,zeros,sadd,eqAgg,cut,slc,sslc,strAt,part,app,cpy,putAt,fresh,lowered,bump,wrote,addN,lt,ne,fpAll,fpApp,brk,yn,rng,mget,mput,mnew,bytes,clr⟩)
include hA
theorem ins_call(hI:InsC F){h0 h:AHeap}(hl0:h0.low<=h0.next){k w rc vb a:Nat}{ra:Option Addr}{bs:Nat->Nat}(hx:Ext h0 h)(hk:k<=10)(hp:Apd h 1 ra k rc ((hdS bs w k).flatMap Hd.cells))(fr:From h0.next ra)(ha:a<=k){I:Int}(eI:I=a)(hv:Own h vb 1 (Hd.cells ⟨some ⟨bs k,0,none⟩,w,someCap 1 w⟩))(hvb:vb<h.next)(hne:∀ad,ra=some ad->ad.block≠vb){Q:Value->AHeap->Prop}
  (hQ:∀b h2,Ext h0 h2->h.next<=h2.next->(∀i,i<h.next->(∀ad,ra=some ad->ad.block≠i)->h2.m.get i=h.m.get i)->h.next<=b->b<h2.next->
   Own h2 b 1 (((hdS bs w k).take a++(⟨some ⟨bs k,0,none⟩,w,someCap 1 w⟩:Hd) :: (hdS bs w k).drop a).flatMap Hd.cells)->Q (.slice (some ⟨b,0,none⟩) (k+1) (someCap 1 (k+1))) h2) :
  call 100 [.slice ra k rc,.int .i64 I,.slice (some ⟨vb,0,none⟩) 1 1] h Q:=by
 have hlow:h.low<=h.next:=hx.lowOK hl0;have hlen:(hdS bs w k).length=k:=lst_len _ _;by_cases c:a<k
 ·rcases hp with ⟨_,q,_⟩|⟨b0,rfl,ec,hb,hl,ho⟩
  ·omega
  have hb0:h0.next<=b0:=fr _ rfl;have e:(((hdS bs w k).take a++(⟨some ⟨bs k,0,none⟩,w,someCap 1 w⟩:Hd) :: (hdS bs w k).drop a).flatMap Hd.cells)=((hdS bs w k).flatMap Hd.cells).take a++(.slice (some ⟨bs k,0,none⟩) w (someCap 1 w)) :: ((hdS bs w k).flatMap Hd.cells).drop a:=by
   rw[flat_map,flat_map,List.map_append,List.map_cons,List.map_take,List.map_drop]
  have key:insertF [.slice (some ⟨b0,0,none⟩) k rc,.int .i64 I,.slice (some ⟨vb,0,none⟩) 1 1] h=some (.slice (some ⟨h.next,0,none⟩) (k+1) (someCap 1 (k+1)),(h.kill b0).push 1 (((hdS bs w k).flatMap Hd.cells).take a++(.slice (some ⟨bs k,0,none⟩) w (someCap 1 w)) :: ((hdS bs w k).flatMap Hd.cells).drop a)):=by
   unfold insertF;have q1:h.m.get b0=some (.live true 1 ((hdS bs w k).flatMap Hd.cells)):=ho;have q2:h.m.get vb=some (.live true 1 [.slice (some ⟨bs k,0,none⟩) w (someCap 1 w)]):=hv;simp only[q1,q2];have z1:Nat.beq rc (someCap 1 k)=true:=by rw[ec];exact Nat.beq_refl _
   have z2:Nat.beq ((hdS bs w k).flatMap Hd.cells).length k=true:=by rw[hl,Nat.mul_one];exact Nat.beq_refl _
   have z3:decide (0<=I/\I<k)=true:=by simp;omega
   have z4:((hdS bs w k).flatMap Hd.cells).all isHd=true:=by
    rw[flat_map,List.all_eq_true];intro v hv;obtain⟨d,hd,rfl⟩:=List.mem_map.1 hv;unfold hdS lst at hd;obtain⟨y,_,rfl⟩:=List.mem_map.1 hd;rfl
   have z5:Nat.beq b0 vb=false:=nbeq (hne _ rfl);have z6:Nat.ble k 1000=true:=ble_true (by omega);simp only[z1,z2,z3,z4,z5,z6,isHd,Bool.and_self,Bool.not_false,cond_true];rw[show I.toNat=a by omega]
  refine hA.prim (hI.ins _ _ _ key) ?_;have x1:Ext h0 ((h.kill b0).push 1 (((hdS bs w k).flatMap Hd.cells).take a++(.slice (some ⟨bs k,0,none⟩) w (someCap 1 w)) :: ((hdS bs w k).flatMap Hd.cells).drop a)):=(hx.kill hb0).trans (.push _ _ _);refine hQ h.next _ x1 (Nat.le_succ _) (fun i hi hni=>?_) (Nat.le_refl _) (Nat.lt_succ_self _) ?_
  ·show((h.m.set b0 .dead).set h.next _).get i=_
   rw[Tri.get_set_ne _ _ (by omega),Tri.get_set_ne _ _ (hni _ rfl)]
  ·rw[e];exact Own.push (h.kill b0) 1 _
 ·obtain rfl:a=k:=by omega
  have hnone:F 100 [.slice ra a rc,.int .i64 I,.slice (some ⟨vb,0,none⟩) 1 1] h=none:=by rw[eI];exact hI.non _ _ (insertF_end h)
  have e1:ofNat 1=1:=e_ofNat hA 1;have e2:ofNat a=I:=by rw[eI];exact e_ofNat hA a
  have hcap:rc=someCap 1 a\/(a=0/\ra=none/\rc=0):=by
   rcases hp with ⟨q1,q2,q3,_⟩|⟨b0,_,ec,_⟩
   ·exact .inr ⟨q2,q1,q3⟩
   ·exact .inl ec
  refine hA.bodyR Try.func100 r100_ok hnone hlow (zc ?_);rw[eI];refine slc_from hA TLL (by omega) hcap hp.cells (Nat.le_refl a) (fun a' c' _=>?_);rw[<-eI]
  (refine zq ?_;repeat ((first|rw[e1]);refine zq ?_))
  refine br ((1:Int)=0) (by rw[e_eql hA]) (fun q=>by omega) (fun _=>?_)<;>refine zc ?_
  (refine zq ?_;repeat ((first|rw[e2]);refine zq ?_))
  refine br (I=I) (by rw[e_eql hA]) (fun _=>?_) (fun q=>absurd rfl q)<;>refine zc ?_;refine zq ?_;rw[e_app hA];have hs:Cells h (some ⟨vb,0,none⟩) 1 1 (Hd.cells ⟨some ⟨bs a,0,none⟩,w,someCap 1 w⟩):=⟨rfl,hvb,hv.readG (o:=0) (n:=1) (Nat.le_refl _)⟩;obtain⟨a',c',h',q1,q2,q3,q4,q5,q6⟩:=append_keep TLL TLL.und (c2:=1) hp hs (hd_okS bs w a) rfl (by omega) (by omega);obtain⟨x1,_⟩:=q3 h0 hx fr;rcases q2 with ⟨_,w',_⟩|⟨b',rfl,rfl,w1,w2,w3⟩
  ·omega
  refine⟨_,_,_,h',q1,?_⟩;have hq:=hQ b' h' x1 q4 (fun i hi hni=>q6 i hi hni) (q5 _ rfl) w1 (by
   rw[List.take_of_length_le (by omega),List.drop_eq_nil_of_le (by omega),List.flatMap_append];simpa using w3)
  generalize someCap 1 (a+1)=cc at *;generalize a+1=a1 at *;refine zq ?_;exact hq
