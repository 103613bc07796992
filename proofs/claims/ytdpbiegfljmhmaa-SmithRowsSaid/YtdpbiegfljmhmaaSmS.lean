import Derived.Test.YtdpbiegfljmhmaaSmB
import Derived.Test.YtdpbiegfljmhmaaSymSlc
import Derived.Test.YtdpbiegfljmhmaaSlPi
import Derived.Test.YtdpbiegfljmhmaaSmIn
import Derived.Test.YtdpbiegfljmhmaaSlMd
set_option linter.unusedSimpArgs false
set_option linter.unusedVariables false
namespace Go.Sim
theorem cD.part{h:af}{a:Option Addr}{n es:Nat}{cells:List Value}(c:cD h a n es cells){i m:Nat}(hi:i+m<=n):cD h (a.map (dP · (i*es))) m es ((cells.drop (i*es)).take (m*es)):=by
 have hlen:=c.length;have hm:i*es+m*es<=n*es:=by rw[<-Nat.add_mul];exact Nat.mul_le_mul_right es hi
 cases a with
 |none=>
  obtain⟨rfl,rfl⟩:=c;exact⟨by omega,by simp⟩
 |some ad=>
  obtain⟨h1,h2,h3⟩:=c;obtain⟨b,o,sp⟩:=ad;simp only at h1;subst h1;refine⟨rfl,h2,?_⟩;unfold af.readG dP at *;simp only[]at h3 ⊢;split at h3
  ·rename_i cs hcs
   obtain⟨e1,e2⟩:=zi h3;refine lG ?_ ?_
   ·subst e1
    rw[List.drop_take,List.take_take,List.drop_drop,Nat.min_eq_left (by omega)]
   ·simp only[List.length_take,List.length_drop];omega
  ·cases h3
theorem cD.head{h:af}{a:Option Addr}{n es:Nat}{cells:List Value}(c:cD h a n es cells){m:Nat}(hm:m<=n):cD h a m es (cells.take (m*es)):=by
 have:=c.part (i:=0) (m:=m) (by omega);rw[Nat.zero_mul,List.drop_zero]at this;cases a with
 |none=>exact this
 |some ad=>exact this
theorem Br{α:Type}{enc:α->List Value}{es:Nat}(he:∀x,(enc x).length=es)(l:List α)(k:Nat):(l.flatMap enc).take (k*es)=(l.take k).flatMap enc:=by
 induction l generalizing k with
 |nil=>simp
 |cons x l ih=>
  cases k with
  |zero=>simp
  |succ k=>rw[List.flatMap_cons,List.take_succ_cons,List.flatMap_cons,List.take_append,he,List.take_of_length_le (by rw[he,Nat.succ_mul];omega),show(k+1)*es-es=k*es by rw[Nat.succ_mul];omega,ih]
def qY(P:Program)(h:af)(e es:Nat)(a:Option Addr)(n c:Nat)(news:List Value):Prop:=gI P h e es false (.slice a n c)=some (n,news)/\news.length=n*es
theorem qY.of{P:Program}{h:af}{e es:Nat}{a:Option Addr}{n:Nat}{news:List Value}(c:Nat)(hs:cD h a n es news):qY P h e es a n c news:=by
 refine⟨?_,hs.length⟩;unfold gI;simp only[cond_false];cases a with
 |none=>obtain⟨rfl,rfl⟩:=hs;simp
 |some ad=>
  obtain⟨h1,h2,h3⟩:=hs;simp only[h3]
theorem qY.nothing(P:Program)(h:af)(e es:Nat)(x c:Nat):qY P h e es (some ⟨0,0,some x⟩) 0 c []:=by
 refine⟨?_,by simp⟩;unfold gI af.readG;rfl
theorem zG{P:Program}{t t2 e es:Nat}(hT:dB P t e es)(ht2:P.underlying t2=some (.slice e)){h:af}{b n c n2 c2:Nat}{a2:Option Addr}{cells news:List Value}(hp:BU h es b n c cells)(hs:qY P h e es a2 n2 c2 news)(hok:cells.all aA=true)(hok2:news.all aA=true)(hbig:n+n2<=1000000) :
  ∃b' c' h',bO P h [t,t2] [.slice (some ⟨b,0,none⟩) n c,.slice a2 n2 c2]=some (.slice (some ⟨b',0,none⟩) (n+n2) c',h')/\BU h' es b' (n+n2) c' (cells++news)/\h.next<=h'.next/\(b'=b\/h.next<=b')/\(∀j,j<h.next->j≠b->h'.m.get j=h.m.get j)/\(∀h0,Ext h0 h->h0.next<=b->Ext h0 h'/\h0.next<=b'):=by
 obtain⟨ho,hb,hl,hc⟩:=hp;obtain⟨by_,hby,hby2⟩:=hT.bytes;obtain⟨z,hz,hz2⟩:=hT.zero;obtain⟨hnews,hnl⟩:=hs;have hcl:bW c=n:=by
  rcases hc with ⟨rfl,rfl⟩|rfl
  ·rfl
  ·exact bM (by unfold aI;omega)
 unfold bO;simp only[hT.und,hT.size,hby,ht2,hz,ct,hnews];rw[hcl];by_cases h0:n2=0
 ·subst h0
  have:news=[]:=by simpa using hnl
  subst this;obtain⟨h',hw,ho',hw2⟩:=ho.write (o:=n*es) (vs:=[]) (by simp;omega);have hwg:h.writeG (dP ⟨b,0,none⟩ (n*es)) []=some h':=by
   unfold af.writeG dP;simp only[List.all_nil,cond_true,Nat.zero_add];exact hw
  rw[aS (show n+0<=n by omega)];simp only[cond_true,hwg];have e2:cells.take (n*es)++([]++cells.drop (n*es+([]:List Value).length))=cells:=by simp
  rw[e2]at ho';exact⟨b,c,h',rfl,⟨by simpa using ho',by rw[hw2.next];exact hb,by simpa using hl,hc⟩,by rw[hw2.next];exact Nat.le_refl _,.inl rfl,fun j _ j1=>hw2.get j j1,fun h0 e0 hb0=>⟨hw2.ext e0 hb0,hb0⟩⟩
 ·rw[dl (by omega)]
  simp only[cond_false];rw[aS (show n+n2<=1073741824 by omega),aS hby2,hok2,hz2,hnl];simp only[Bool.and_self,Nat.beq_refl,cond_true];have hr:h.readG ⟨b,0,none⟩ (n*es)=some cells:=by rw[ho.readG (by omega)];simp[<-hl]
  simp only[hr];rcases hc with ⟨rfl,rfl⟩|rfl
  ·rw[da (show 0<aI by unfold aI;omega),hok]
   simp only[cond_true];refine⟨_,_,_,rfl,⟨bG.push _ _ _,by simp[af.push],by simp[hl,hnl],.inr rfl⟩,by simp[af.push],.inr (Nat.le_refl _),fun j j0 _=>(Ext.push h es _).get j j0,fun h0 e0 hb0=>⟨e0.trans (.push _ _ _),e0.next⟩⟩
  ·rw[bT (cS es n),hok]
   simp only[cond_false,cond_true];rw[show h.m.get b=some (.live true es cells)from ho];simp only[Nat.beq_refl,cond_true];refine⟨_,_,_,rfl,⟨bG.push (h.kill b) es _,by simp[af.push,af.kill],by simp[hl,hnl,Nat.add_mul],.inr rfl⟩,by simp[af.push,af.kill],.inr (Nat.le_refl _),fun j j0 j1=>?_,fun h0 e0 hb0=>⟨(e0.kill hb0).trans (.push _ _ _),?_⟩⟩
   ·have k1:(h.kill b).m.get j=h.m.get j:=by unfold af.kill;simp only[];rw[cg.get_set_ne _ _ (fun q=>j1 q.symm)]
    rw[<-k1];exact(Ext.push (h.kill b) es _).get j (by unfold af.kill;exact j0)
   ·exact e0.next
end Go.Sim
namespace Go.Proofs.Ytdpbiegfljmhmaa
open Go.Sim
set_option maxRecDepth 100000
theorem dk.perm{h0 h:af}{n w:Nat}{bs:Nat->Nat}{F:Nat->Ext.aJ}(t:dk h0 h n w bs F){σ:Nat->Nat}(hs:∀y,y<n->σ y<n)(hi:∀y z,y<n->z<n->σ y=σ z->y=z):dk h0 h n w (fun y=>bs (σ y)) (fun y=>F (σ y)):=
 ⟨t.ext,fun y hy=>t.row _ (hs y hy),fun y hy=>t.old _ (hs y hy),fun y hy=>t.lt _ (hs y hy),fun y z hy hz e=>hi y z hy hz (t.inj _ _ (hs y hy) (hs z hz) e)⟩
theorem yr{a b n:Nat}(ha:a<n)(hb:b<n):∀y,y<n->Da a b y<n:=fun y hy=>by unfold Da;split<;>(try split)<;>omega
theorem Iz{a b:Nat}(y z:Nat)(q:Da a b y=Da a b z):y=z:=by unfold Da at q;split at q<;>(try split at q)<;>(try split at q)<;>(try split at q)<;>omega
theorem lD.swap{h0 h:af}{sb k w rc:Nat}{ra:Option Addr}{bs:Nat->Nat}{F:Nat->Ext.aJ}(t:lD h0 h sb k (k+1) w ra rc bs F){a:Nat}(ha:a<k) :
  ∃b h2,ra=some ⟨b,0,none⟩/\h.write b (0+a*1) [.slice (some ⟨bs k,0,none⟩) w (ar 1 w)]=some h2/\lD h0 h2 sb k (k+1) w ra rc (fun y=>bs (Da a k y)) (fun y=>F (Da a k y)):=by
 rcases t.apd with ⟨_,q,_⟩|⟨b,rfl,ec,hb,hl,ho⟩
 ·omega
 have hlen:(jc bs w k).length=k:=aL _ _;obtain⟨h2,w1,w2,w3⟩:=bG.setRow ho dF (i:=a) (by rw[hlen];exact ha) (⟨some ⟨bs k,0,none⟩,w,ar 1 w⟩:Hd);have hnr:=t.nra ⟨b,0,none⟩ rfl;have e:(jc bs w k).set a ⟨some ⟨bs k,0,none⟩,w,ar 1 w⟩=jc (fun y=>bs (Da a k y)) w k:=by
  unfold jc;rw[pJ];refine di (fun y hy=>?_);by_cases c:y=a
  ·simp only[Da,if_pos c]
  ·simp only[Da,if_neg c,if_neg (show ¬y=k by omega)]
 rw[e]at w2;have hp:=t.rows.perm (yr (a:=a) (b:=k) (n:=k+1) (by omega) (by omega)) (fun y z _ _ q=>Iz y z q);have xe:Ext h0 h2:=w3.ext t.rows.ext (t.fr _ rfl);refine⟨b,h2,rfl,by rw[Nat.zero_add];exact w1,⟨hp.keep xe (by rw[w3.next];exact Nat.le_refl _) (fun y hy=>w3.get _ (fun q=>hnr.2 _ (yr (a:=a) (b:=k) (n:=k+1) (by omega) (by omega) y hy) q.symm)),t.own.of_get (w3.get _ (fun q=>hnr.1 q.symm)),?_,t.kn,t.s0,by rw[w3.next];exact t.s1,t.fr,fun y hy=>t.nsb _ (yr (by omega) (by omega) y hy),fun ad had=>?_⟩⟩
 ·refine .inr ⟨b,rfl,ec,by rw[w3.next];exact hb,?_,w2⟩
  rw[cQ dF];unfold jc;rw[aL]
 ·cases had
  exact⟨hnr.1,fun y hy=>hnr.2 _ (yr (by omega) (by omega) y hy)⟩
def oC(a k:Nat):Nat->Nat:=fun y=>if y<a then y else if y=a then k else y-1
theorem sC{a k:Nat}(ha:a<=k):∀y,y<k+1->oC a k y<k+1:=fun y hy=>by unfold oC;split<;>(try split)<;>omega
theorem Hj{a k:Nat}(ha:a<=k)(y z:Nat)(hy:y<k+1)(hz:z<k+1)(q:oC a k y=oC a k z):y=z:=by unfold oC at q;split at q<;>(try split at q)<;>(try split at q)<;>(try split at q)<;>omega
theorem Kd{bs:Nat->Nat}{w k a:Nat}(ha:a<=k):(jc bs w k).take a++(⟨some ⟨bs k,0,none⟩,w,ar 1 w⟩:Hd) :: (jc bs w k).drop a=jc (fun y=>bs (oC a k y)) w (k+1):=by
 have hlen:(jc bs w k).length=k:=aL _ _;apply List.ext_getElem?;intro j;have ht:((jc bs w k).take a).length=a:=by rw[List.length_take,hlen,Nat.min_eq_left ha]
 by_cases c:j<k+1
 ·rw[show(jc (fun y=>bs (oC a k y)) w (k+1))[j]?=_ from io _ c]
  rcases Nat.lt_trichotomy j a with q|q|q
  ·rw[List.getElem?_append_left (by omega),List.getElem?_take,if_pos q]
   unfold jc;rw[io _ (by omega)];simp only[oC,if_pos q]
  ·rw[List.getElem?_append_right (by omega),ht,q,Nat.sub_self]
   simp only[oC,if_neg (show ¬a<a by omega),if_true];rfl
  ·rw[List.getElem?_append_right (by omega),ht,show j-a=(j-a-1)+1 by omega,List.getElem?_cons_succ,List.getElem?_drop,show a+(j-a-1)=j-1 by omega]
   unfold jc;rw[io _ (by omega)];simp only[oC,if_neg (show ¬j<a by omega),if_neg (show ¬j=a by omega)]
 ·rw[List.getElem?_eq_none (by rw[List.length_append,List.length_cons,ht,List.length_drop,hlen];omega),List.getElem?_eq_none (by unfold jc;rw[aL];omega)]
theorem Eo{F:Nat->Ext.aJ}{a k:Nat}(ha:a<=k):∀y,y<k+1->F (oC a k y)=Ext.iB F a (F k) y:=fun y hy=>by
 unfold oC Ext.iB;by_cases c:y<a
 ·rw[if_pos c,if_pos c]
 ·rw[if_neg c,if_neg c]
  by_cases c2:y=a
  ·rw[if_pos c2,if_pos c2]
  ·rw[if_neg c2,if_neg c2]
theorem lD.ins{h0 h h2:af}{sb k w rc:Nat}{ra:Option Addr}{bs:Nat->Nat}{F:Nat->Ext.aJ}(t:lD h0 h sb k (k+1) w ra rc bs F){a:Nat}(ha:a<=k){b:Nat}(hx:Ext h0 h2)(hn:h.next<=h2.next)(hg:∀i,i<h.next->(∀ad,ra=some ad->ad.block≠i)->h2.m.get i=h.m.get i)(hb:h.next<=b)(hb2:b<h2.next)
  (ho:bG h2 b 1 (((jc bs w k).take a++(⟨some ⟨bs k,0,none⟩,w,ar 1 w⟩:Hd) :: (jc bs w k).drop a).flatMap Hd.cells)) :
  ∃h3,h2.write sb 0 [.slice (some ⟨b,0,none⟩) (k+1) (ar 1 (k+1))]=some h3/\lD h0 h3 sb (k+1) (k+1) w (some ⟨b,0,none⟩) (ar 1 (k+1)) (fun y=>bs (oC a k y)) (fun y=>F (oC a k y)):=by
 rw[Kd ha]at ho;have os:bG h2 sb 1 [.slice ra k rc]:=t.own.of_get (hg sb t.s1 (fun ad had=>(t.nra ad had).1));obtain⟨h3,w1,w2,w3⟩:=os.write (o:=0) (vs:=[.slice (some ⟨b,0,none⟩) (k+1) (ar 1 (k+1))]) (Nat.le_refl _);have s0:=t.s0;have s1:=t.s1;have hp:=t.rows.perm (sC ha) (Hj ha);have x3:Ext h0 h3:=w3.ext hx s0;refine⟨h3,w1,hp.keep x3 (by rw[w3.next];exact hn) (fun y hy=>?_),w2,.inr ⟨b,rfl,rfl,by rw[w3.next];exact hb2,?_,ho.of_get (w3.get _ (by omega))⟩,Nat.le_refl _,s0,by rw[w3.next];omega,?_,fun y hy=>t.nsb _ (sC ha y hy),fun ad had=>?_⟩
 ·have hy':=sC ha y hy
  rw[w3.get _ (t.nsb _ hy'),hg _ (t.rows.lt _ hy') (fun ad had=>(t.nra ad had).2 _ hy')]
 ·rw[cQ dF];unfold jc;rw[aL]
 ·intro ad had;cases had;have:=t.rows.ext.next;show h0.next<=b;omega
 ·cases had
  exact⟨by show b≠sb;omega,fun y hy=>by have:=t.rows.lt _ (sC ha y hy);show b≠_;omega⟩
structure ph(F:aM):Prop where
 ins:∀a h r,im a h=some r->F 100 a h=some r
 non:∀a h,im a h=none->F 100 a h=none
theorem vj:ph fw:=⟨fun a h r q=>by unfold fw nK;rw[Nat.beq_refl];simp only[cond_true,q],fun a h q=>by unfold fw nK;rw[Nat.beq_refl];simp only[cond_true,q];rfl⟩
theorem pQ(l:List Hd):l.flatMap Hd.cells=l.map (fun d=>.slice d.a d.n d.c):=by
 induction l with
 |nil=>rfl
 |cons d l ih=>rw[List.flatMap_cons,ih];rfl
theorem zL{ra:Option Addr}{k rc vb:Nat}(h:af):im [.slice ra k rc,.int .i64 (k:Int),.slice (some ⟨vb,0,none⟩) 1 1] h=none:=by
 cases hc:im [.slice ra k rc,.int .i64 (k:Int),.slice (some ⟨vb,0,none⟩) 1 1] h with
 |none=>rfl
 |some p=>
  exfalso;obtain⟨b,n,i,vb2,cs,v,e,_,_,_,hi,_⟩:=lK (r:=p.1) (h':=p.2) hc;simp only[List.cons.injEq,Value.slice.injEq,Value.int.injEq]at e;obtain⟨⟨_,e1,_⟩,⟨_,e2⟩,_⟩:=e;have:(k:Int)=(i:Int):=e2;omega
theorem Kn(bs:Nat->Nat)(w k:Nat):((jc bs w k).flatMap Hd.cells).all aA=true:=by
 rw[pQ,List.all_eq_true];intro v hv;obtain⟨d,hd,rfl⟩:=List.mem_map.1 hv;unfold jc gn at hd;obtain⟨y,_,rfl⟩:=List.mem_map.1 hd;rfl
theorem Gn:ni ((bR Try.prog yh BG 10000).call 16 [] iW)=true:=by kernel_rfl
theorem FR:cU Try.prog rL:=Ab (pW Ag DX zM named 10000).2.2.1 Try.func16 (by kernel_rfl) (named 16 _ Try.func16) Gn qG
theorem yF(g:FuncId)(args:List Value)(h:af)(hg:own g=false):rL g args h=oX g args h:=by
 rw[<-rS g args h hg];unfold own at hg;simp only[Bool.or_eq_false_iff]at hg;unfold rL kF;rw[hg.1.1];rfl
theorem AG(h:af):rL 16 [] h=some (.bool true,h):=rfl
theorem D7:ph rL:=⟨fun a h r q=>vj.ins a h r q,fun a h q=>vj.non a h q⟩
theorem zjh{P:Prop}{G:af->Prop}(ok:af->Prop)(h1:Bx (∀v,ok v->G v)->P)(h2:∀v,ok v->G v):P:=h1 ⟨h2⟩
theorem zjp{P G:Prop}(C:Prop)(h1:Bx (C->G)->P)(h2:C->G):P:=h1 ⟨h2⟩
variable{F:aM}{call head a0 d0 f0 g0 i0 k0 l0 m0 n0 ofNat o0 place p0 nz q0 rd wr push next r0 t0 u0 v0 w0 x0 slc y0 z0 part d1 f1 g1 fresh lowered bump wrote addN lt ne fpAll i1 l1 yn p1 u1 d2 f2 bytes i2:_}(hA:AP F ⟨call,head,a0,d0,f0,g0,i0,k0,l0,m0,n0,ofNat,o0,place,p0,nz,q0,rd,wr,push,next,r0,t0,u0,v0,w0,x0,slc,y0,z0,part,d1,f1,g1,fresh,lowered,bump,wrote,addN,lt,ne,fpAll,i1,l1,yn,p1,u1,d2,f2,bytes,i2⟩)
include hA
theorem Fo{t:TypeId}{e es:Nat}(hT:dB Try.prog t e es){h:af}{a:Option Addr}{n c:Nat}(hn:n<=1000000)(hc:c=ar es n\/(n=0/\a=none/\c=0)){cells:List Value}(hs:cD h a n es cells){k:IntKind}{i:Nat}(hi:i<=n){C:Option Addr->Nat->Nat->Prop}
  (hC:∀a' c',(∀h',Ext h h'->qY Try.prog h' e es a' (n-i) c' (cells.drop (i*es)))->C a' (n-i) c'):slc t (.slice a n c) (some (.int k i)) none none C:=by
 have e_slc:slc t (.slice a n c) (some (.int k i)) none none C = ∃a' n' c',fx Try.prog t (.slice a n c) (some (.int k i)) none none=some (.slice a' n' c')/\C a' n' c':=by have:=hA.eq;injections;subst_vars;rfl
 have hlen:=hs.length;rw[e_slc];unfold fx;simp only[hT.und,hT.size];unfold jA;simp only[fg,gq,fO,bound];rcases hc with rfl|⟨rfl,rfl,rfl⟩
 ·have hsl:n<aI:=by unfold aI;omega
  rw[if_pos ⟨by omega,by omega⟩];simp only[];rw[bM hsl,aS (Nat.le_refl _),bT (cS es n),iJ hsl];simp only[cond_true,cond_false,Option.isSome_none,Bool.or_false,Int.toNat_natCast];by_cases c0:i=0
  ·subst c0
   rw[show Nat.beq 0 0=true from rfl];simp only[cond_true];refine⟨_,_,_,rfl,hC _ _ (fun h' x=>?_)⟩;rw[Nat.zero_mul,List.drop_zero];exact qY.of _ (hs.ext x)
  rw[DB c0];simp only[cond_false];by_cases c1:i<n
  ·rw[da c1]
   simp only[Bool.true_and,Nat.beq_refl,cond_true];refine⟨_,_,_,rfl,hC _ _ (fun h' x=>?_)⟩;have:=(hs.ext x).part (i:=i) (m:=n-i) (by omega);rw[List.take_of_length_le (by rw[List.length_drop,hlen,Nat.sub_mul];omega)]at this;exact qY.of _ this
  ·have e1:i=n:=by omega
   subst e1;rw[bT (Nat.le_refl _)];simp only[Bool.false_and,cond_false];rw[show Nat.beq i i=true by simp];simp only[cond_true,Nat.sub_self];refine⟨_,_,_,rfl,?_⟩;have:=hC (some ⟨0,0,some 0⟩) aI (fun h' _=>by
    rw[Nat.sub_self,List.drop_of_length_le (by omega)];exact qY.nothing _ _ _ _ _ _)
   rwa [Nat.sub_self]at this
 ·obtain rfl:i=0:=by omega
  obtain⟨_,rfl⟩:=hs;rw[if_pos ⟨by omega,by simp⟩];simp only[];refine⟨none,0,0,rfl,?_⟩;exact hC none 0 (fun h' _=>by simpa using qY.of (P:=Try.prog) (h:=h') (e:=e) (es:=es) 0 (show cD h' none 0 es []from⟨rfl,rfl⟩))
theorem D9{h0 h:af}(hl0:h0.low<=h0.next){sb k n w rc c r:Nat}{ra:Option Addr}{bs:Nat->Nat}{F:Nat->Ext.aJ}(hk:k<=10)(hr:r<n)(hw:w<=1000)(m:lD h0 h sb k n w ra rc bs F){C:Int}(eC:C=c){cw:Nat}(ecw:cw=ar 1 w){Q:Exit->SS->Prop}
  (hQ:∀(kn:Nat) (T:List (Nat×List Value)) (a:Nat) (I:Int),I=a->a<=k->(∀y,y<a->Ext.aj w (F y)<c)->(a<k->c<=Ext.aj w (F a))->Q (.exit 2) ⟨[(0,.pointer (some ⟨sb,0,none⟩)),(1,.slice (some ⟨bs r,0,none⟩) w cw),(4,.func (.func 98) #[.pointer (some ⟨sb,0,none⟩)] #[]),(5,.int .i64 C),(6,.int .i64 I)],kn,T,h⟩) :
  ∀(d j:Nat) (J:Int),k-j<=d->j<=k->J=j->(∀y,y<j->Ext.aj w (F y)<c)->
   head 85 5 0 ⟨[(0,.pointer (some ⟨sb,0,none⟩)),(1,.slice (some ⟨bs r,0,none⟩) w cw),(4,.func (.func 98) #[.pointer (some ⟨sb,0,none⟩)] #[]),(5,.int .i64 C),(6,.int .i64 J)],0,[],h⟩ Q:=by
 intro d;have hlow:h.low<=h.next:=m.rows.ext.lowOK hl0;obtain⟨K,eK⟩:∃z:Int,z=k:=⟨_,rfl⟩;have e1:ofNat k=K:=by rw[eK];exact aF hA k
 have r1:rd h sb (addN 0 0) 1 [.slice ra k rc]:=by rw[cB hA];exact gP hA (m.own.readG (o:=0) (n:=1) (Nat.le_refl _))
 have hkn:=m.kn
 induction d with
 |zero=>
  intro j J hd hj eJ hz;refine hA.roundR Try.func85 r85_ok (zc ?_)
  (refine zq ?_;repeat ((first|rw[e1]);refine zq ?_))
  refine br (J<K) (by rw[au hA]) (fun q=>by omega) (fun _=>?_)<;>refine zc ?_;refine zq ?_;exact hQ _ _ j J eJ hj hz (fun q=>by omega)
 |succ d ih=>
 intro j J hd hj eJ hz;refine hA.roundR Try.func85 r85_ok (zc ?_)
 (refine zq ?_;repeat ((first|rw[e1]);refine zq ?_))
 refine br (J<K) (by rw[au hA]) (fun cj=>?_) (fun cj=>?_)<;>refine zc ?_
 rotate_left
 ·refine zq ?_
  exact hQ _ _ j J eJ hj hz (fun q=>by omega)
 obtain⟨b,rfl,hb,q1⟩:=m.head (y:=j) (by omega);rw[<-ecw]at q1;have r2:rd h b (place 0 J 1) 1 [.slice (some ⟨bs j,0,none⟩) w cw]:=az hA (by rw[eJ];exact q1);refine zq ?_;refine og hA hlow hw (fun x hx=>m.rows.el (show j<n by omega) hx) (fun L eL=>⟨L,rfl,?_⟩);refine zq ?_;refine br (L<C) (by rw[au hA]) (fun cl=>?_) (fun cl=>?_)<;>refine zc ?_
 ·refine zq ?_
  rw[aB hA (by omega) (by omega)];exact ih (j+1) (J+1) (by omega) (by omega) (by omega) (fun y hy=>by
   by_cases e:y=j
   ·rw[e];omega
   ·exact hz y (by omega))
 ·refine zq ?_
  exact hQ _ _ j J eJ hj hz (fun _=>by omega)
theorem Fx(hI:ph F){h0 h:af}(hl0:h0.low<=h0.next){k w rc vb a:Nat}{ra:Option Addr}{bs:Nat->Nat}(hx:Ext h0 h)(hk:k<=10)(hp:jw h 1 ra k rc ((jc bs w k).flatMap Hd.cells))(fr:gf h0.next ra)(ha:a<=k){I:Int}(eI:I=a)(hv:bG h vb 1 (Hd.cells ⟨some ⟨bs k,0,none⟩,w,ar 1 w⟩))(hvb:vb<h.next)(hne:∀ad,ra=some ad->ad.block≠vb){Q:Value->af->Prop}
  (hQ:∀b h2,Ext h0 h2->h.next<=h2.next->(∀i,i<h.next->(∀ad,ra=some ad->ad.block≠i)->h2.m.get i=h.m.get i)->h.next<=b->b<h2.next->
   bG h2 b 1 (((jc bs w k).take a++(⟨some ⟨bs k,0,none⟩,w,ar 1 w⟩:Hd) :: (jc bs w k).drop a).flatMap Hd.cells)->Q (.slice (some ⟨b,0,none⟩) (k+1) (ar 1 (k+1))) h2) :
  call 100 [.slice ra k rc,.int .i64 I,.slice (some ⟨vb,0,none⟩) 1 1] h Q:=by
 have hlow:h.low<=h.next:=hx.lowOK hl0;have hlen:(jc bs w k).length=k:=aL _ _;by_cases c:a<k
 ·rcases hp with ⟨_,q,_⟩|⟨b0,rfl,ec,hb,hl,ho⟩
  ·omega
  have hb0:h0.next<=b0:=fr _ rfl;have e:(((jc bs w k).take a++(⟨some ⟨bs k,0,none⟩,w,ar 1 w⟩:Hd) :: (jc bs w k).drop a).flatMap Hd.cells)=((jc bs w k).flatMap Hd.cells).take a++(.slice (some ⟨bs k,0,none⟩) w (ar 1 w)) :: ((jc bs w k).flatMap Hd.cells).drop a:=by
   rw[pQ,pQ,List.map_append,List.map_cons,List.map_take,List.map_drop]
  have key:im [.slice (some ⟨b0,0,none⟩) k rc,.int .i64 I,.slice (some ⟨vb,0,none⟩) 1 1] h=some (.slice (some ⟨h.next,0,none⟩) (k+1) (ar 1 (k+1)),(h.kill b0).push 1 (((jc bs w k).flatMap Hd.cells).take a++(.slice (some ⟨bs k,0,none⟩) w (ar 1 w)) :: ((jc bs w k).flatMap Hd.cells).drop a)):=by
   unfold im;have q1:h.m.get b0=some (.live true 1 ((jc bs w k).flatMap Hd.cells)):=ho;have q2:h.m.get vb=some (.live true 1 [.slice (some ⟨bs k,0,none⟩) w (ar 1 w)]):=hv;simp only[q1,q2];have z1:Nat.beq rc (ar 1 k)=true:=by rw[ec];exact Nat.beq_refl _
   have z2:Nat.beq ((jc bs w k).flatMap Hd.cells).length k=true:=by rw[hl,Nat.mul_one];exact Nat.beq_refl _
   have z3:decide (0<=I/\I<k)=true:=by simp;omega
   have z4:((jc bs w k).flatMap Hd.cells).all vC=true:=by
    rw[pQ,List.all_eq_true];intro v hv;obtain⟨d,hd,rfl⟩:=List.mem_map.1 hv;unfold jc gn at hd;obtain⟨y,_,rfl⟩:=List.mem_map.1 hd;rfl
   have z5:Nat.beq b0 vb=false:=DB (hne _ rfl);have z6:Nat.ble k 1000=true:=aS (by omega);simp only[z1,z2,z3,z4,z5,z6,vC,Bool.and_self,Bool.not_false,cond_true];rw[show I.toNat=a by omega]
  refine hA.prim (hI.ins _ _ _ key) ?_;have x1:Ext h0 ((h.kill b0).push 1 (((jc bs w k).flatMap Hd.cells).take a++(.slice (some ⟨bs k,0,none⟩) w (ar 1 w)) :: ((jc bs w k).flatMap Hd.cells).drop a)):=(hx.kill hb0).trans (.push _ _ _);refine hQ h.next _ x1 (Nat.le_succ _) (fun i hi hni=>?_) (Nat.le_refl _) (Nat.lt_succ_self _) ?_
  ·show((h.m.set b0 .dead).set h.next _).get i=_
   rw[cg.get_set_ne _ _ (by omega),cg.get_set_ne _ _ (hni _ rfl)]
  ·rw[e];exact bG.push (h.kill b0) 1 _
 ·obtain rfl:a=k:=by omega
  have hnone:F 100 [.slice ra a rc,.int .i64 I,.slice (some ⟨vb,0,none⟩) 1 1] h=none:=by rw[eI];exact hI.non _ _ (zL h)
  have e1:ofNat 1=1:=aF hA 1;have e2:ofNat a=I:=by rw[eI];exact aF hA a
  have hcap:rc=ar 1 a\/(a=0/\ra=none/\rc=0):=by
   rcases hp with ⟨q1,q2,q3,_⟩|⟨b0,_,ec,_⟩
   ·exact .inr ⟨q2,q1,q3⟩
   ·exact .inl ec
  refine hA.bodyR Try.func100 r100_ok hnone hlow (zc ?_);rw[eI];refine Fo hA vp (by omega) hcap hp.cells (Nat.le_refl a) (fun a' c' _=>?_);rw[<-eI]
  (refine zq ?_;repeat ((first|rw[e1]);refine zq ?_))
  refine br ((1:Int)=0) (by rw[cJ hA]) (fun q=>by omega) (fun _=>?_)<;>refine zc ?_
  (refine zq ?_;repeat ((first|rw[e2]);refine zq ?_))
  refine br (I=I) (by rw[cJ hA]) (fun _=>?_) (fun q=>absurd rfl q)<;>refine zc ?_;refine zq ?_;rw[oI hA];have hs:cD h (some ⟨vb,0,none⟩) 1 1 (Hd.cells ⟨some ⟨bs a,0,none⟩,w,ar 1 w⟩):=⟨rfl,hvb,hv.readG (o:=0) (n:=1) (Nat.le_refl _)⟩;obtain⟨a',c',h',q1,q2,q3,q4,q5,q6⟩:=nl vp vp.und (c2:=1) hp hs (Kn bs w a) rfl (by omega) (by omega);obtain⟨x1,_⟩:=q3 h0 hx fr;rcases q2 with ⟨_,w',_⟩|⟨b',rfl,rfl,w1,w2,w3⟩
  ·omega
  refine⟨_,_,_,h',q1,?_⟩;have hq:=hQ b' h' x1 q4 (fun i hi hni=>q6 i hi hni) (q5 _ rfl) w1 (by
   rw[List.take_of_length_le (by omega),List.drop_eq_nil_of_le (by omega),List.flatMap_append];simpa using w3)
  generalize ar 1 (a+1)=cc at *;generalize a+1=a1 at *;refine zq ?_;exact hq
set_option maxHeartbeats 1000000 in
theorem FZ(hI:ph F){h0:af}(hl0:h0.low<=h0.next){sb k w cw:Nat}{F0:Nat->Ext.aJ}(hw:w<=1000)(ecw:cw=ar 1 w)(hM:∀i,i<k+1->∀j,(F0 i j).natAbs<=9){Q:Exit->SS->Prop}
  (hQ:∀(h':af) (kn:Nat) (T:List (Nat×List Value)) ra rc bs A,lD h0 h' sb (k+1) (k+1) w ra rc bs A->Ext.pi w (k+1) (k+1) A F0->Q (.exit 0) ⟨[(0,.pointer (some ⟨sb,0,none⟩)),(4,.func (.func 98) #[.pointer (some ⟨sb,0,none⟩)] #[])],kn,T,h'⟩) :
  ∀(D M:Nat) (h:af) (ra:Option Addr) (rc:Nat) (bs:Nat->Nat) (A:Nat->Ext.aJ),lD h0 h sb k (k+1) w ra rc bs A->Ext.AD w k A F0 D M->
   head 85 1 0 ⟨[(0,.pointer (some ⟨sb,0,none⟩)),(1,.slice (some ⟨bs k,0,none⟩) w cw),(4,.func (.func 98) #[.pointer (some ⟨sb,0,none⟩)] #[])],0,[],h⟩ Q:=by
 intro D
 induction D using Nat.strongRecOn with
 |_ D ihD=>
 intro M
 induction M using Nat.strongRecOn with
 |_ M ihM=>
 intro h ra rc bs A m r;have k3:=r.base.k3;have hlow:h.low<=h.next:=m.rows.ext.lowOK hl0;obtain⟨lo1,b1⟩:=r.low;have hcw:=r.base.lead;refine hA.roundR Try.func85 r85_ok (zc ?_);refine pP hA (sb:=sb) (r:=k) hl0 (by omega) (by omega) hw (fun y hy _=>⟨r.base.stp.lt y hy,r.base.stp.pos y hy⟩) lo1 m ecw (fun h1 m1 _=>?_);have hlow1:h1.low<=h1.next:=m1.rows.ext.lowOK hl0;obtain⟨u,eu⟩:∃z,z=Ext.bm w A (Ext.aj w (A k)) k (A k):=⟨_,rfl⟩;rw[<-eu]at m1 b1;obtain⟨A1,eA⟩:∃z,z=Ext.put A k u:=⟨_,rfl⟩;have a1k:A1 k=u:=by rw[eA];exact Ext.eE u
 have a1n:∀y,y<k->A1 y=A y:=fun y hy=>by rw[eA];exact Ext.dS u (by omega)
 rw[<-eA]at m1;have hlu:Ext.aj w u=Ext.aj w (A k):=by rw[eu];exact Ext.low_lead k
 refine zq ?_;refine og hA hlow1 hw (fun x hx=>m1.rows.el (show k<k+1 by omega) hx) (fun C eC=>⟨C,rfl,?_⟩);rw[a1k,hlu]at eC;obtain⟨W,eW⟩:∃z:Int,z=w:=⟨_,rfl⟩;have e1:ofNat w=W:=by rw[eW];exact aF hA w
 (refine zq ?_;repeat ((first|rw[e1]);refine zq ?_))
 refine br (C=W) (by rw[cJ hA]) (fun q=>by omega) (fun _=>?_)<;>refine zc ?_;refine zq ?_;refine D9 hA (sb:=sb) (r:=k) hl0 (by omega) (by omega) hw m1 eC ecw (fun kn T a I eI ak lo hi=>?_) k 0 0 (by omega) (by omega) rfl (fun y hy=>by omega);obtain⟨K,eK⟩:∃z:Int,z=k:=⟨_,rfl⟩;have e2:ofNat k=K:=by rw[eK];exact aF hA k
 have r1:rd h1 sb (addN 0 0) 1 [.slice ra k rc]:=by rw[cB hA];exact gP hA (m1.own.readG (o:=0) (n:=1) (Nat.le_refl _))
 (refine zq ?_;repeat ((first|rw[e2]);refine zq ?_))
 apply zjp (∀z,a<=z->z<k->Ext.aj w (A k)<Ext.aj w (A z))
 ·intro bx
  refine br (I=K) (by rw[cJ hA]) (fun ca=>?_) (fun ca=>?_)<;>refine zc ?_
  ·refine zq ?_
   exact bx.o (fun z h1 h2=>by omega)
  have ha:a<k:=by omega
  obtain⟨b,rfl,hb,q1⟩:=m1.head ha;rw[<-ecw]at q1;have r2:rd h1 b (place 0 I 1) 1 [.slice (some ⟨bs a,0,none⟩) w cw]:=az hA (by rw[eI];exact q1);refine zq ?_;refine og hA hlow1 hw (fun x hx=>m1.rows.el (show a<k+1 by omega) hx) (fun L eL=>⟨L,rfl,?_⟩);rw[a1n a ha]at eL;refine zq ?_;refine br (C<L) (by rw[dc hA]) (fun cl=>?_) (fun cl=>?_)<;>refine zc ?_
  ·refine zq ?_
   exact bx.o (fun z h1 h2=>by
    by_cases e:z=a
    ·rw[e];omega
    ·have:=r.base.stp.inc a z (by omega) h2;omega)
  ·have he:Ext.aj w (A a)=Ext.aj w (A k):=by have:=hi ha;rw[a1n a ha]at this;omega
   obtain⟨q,eq⟩:∃z,z=u (Ext.aj w (A k)) / A a (Ext.aj w (A k)):=⟨_,rfl⟩;obtain⟨u2,eu2⟩:∃z,z=fun j=>u j-q*A a j:=⟨_,rfl⟩
   obtain⟨sr,sn⟩:=r.step ha he eu eq eu2;obtain⟨x,ex⟩:∃z,z=u (Ext.aj w (A k)):=⟨_,rfl⟩;obtain⟨y,ey⟩:∃z,z=A a (Ext.aj w (A k)):=⟨_,rfl⟩;have hy:0<y:=by rw[ey,<-he];exact r.base.stp.pos a ha
   have x9:Ext h1 (bump h1 24):=aq hA _ _;have m9:=m1.more x9;have s1:rd (bump h1 24) sb (addN 0 0) 1 [.slice (some ⟨b,0,none⟩) k rc]:=by rw[cB hA];exact gP hA (m9.own.readG (o:=0) (n:=1) (Nat.le_refl _))
   have s2:rd (bump h1 24) b (place 0 I 1) 1 [.slice (some ⟨bs a,0,none⟩) w cw]:=az hA (by
    rw[eI];obtain⟨b',e',_,q2⟩:=m9.head ha;cases e';rw[<-ecw]at q2;exact q2)
   have s3:rd (bump h1 24) (bs k) (place 0 C 1) 1 [.int .i64 x]:=az hA (by
    rw[eC,ex,<-a1k];exact m9.rows.el (show k<k+1 by omega) hcw)
   have s4:rd (bump h1 24) (bs a) (place 0 C 1) 1 [.int .i64 y]:=az hA (by
    rw[eC,ey,<-a1n a ha];exact m9.rows.el (show a<k+1 by omega) hcw)
   refine zq ?_;have hx:=(sr (Ext.aj w (A k))).1;rw[<-ex]at hx;refine ol hA hy (by omega) (by omega) (aw hA _) (fun q' eq'=>⟨q',rfl,?_⟩);obtain rfl:q'=q:=by rw[eq',eq,ex,ey]
   refine zq ?_;obtain⟨X,hX⟩:∃z,z=lowered (bump h1 24) (fresh (bump h1 24)):=⟨_,rfl⟩;have xX:Ext h1 X:=by rw[hX];exact bP hA hlow1 x9 (.refl _)
   rw[<-hX];refine xE hA (aw hA X) (show k<k+1 by omega) (show a<k+1 by omega) hw (fun j hj=>by rw[a1k,a1n a ha];exact sr j) (m1.rows.more (xX.trans (fN hA X))) (fun h' m' st'=>?_);rw[a1k,a1n a ha,<-eu2,eA,Ext.gY]at m';obtain⟨h2,eh2⟩:∃z,z=lowered X h':=⟨_,rfl⟩;have m2:dk h0 h2 (k+1) w bs (Ext.put A k u2):=by
    rw[eh2,cT hA];exact⟨Ext.lower' m'.ext (m1.rows.ext.trans xX) hl0,m'.row,m'.old,m'.lt,m'.inj⟩
   have st2:iL h1 h2 (bs k):=by
    have:=((iL.refl h1 (bs k)).ext (xX.trans (fN hA X))).trans st';rw[eh2,cT hA];exact⟨this.next,this.get⟩
   have M2:=m1.put (show k<k+1 by omega) m2 st2;have hlow2:h2.low<=h2.next:=M2.rows.ext.lowOK hl0;obtain⟨x2,ex2⟩:∃z,z=u2 (Ext.aj w (A k)):=⟨_,rfl⟩;have t1:rd h2 (bs k) (place 0 C 1) 1 [.int .i64 x2]:=az hA (by
    have:=m2.el (show k<k+1 by omega) hcw;rw[Ext.eE]at this;rw[eC,ex2];exact this)
   have fp:∀b0,b0<h1.next->fpAll false (wrote (bump h1 24) (fresh (bump h1 24))) false b0 (addN (next h1) 24):=fun b0 hb0=>JL hA (by rw[fM hA,iY hA]) (by rw[cB hA,bV hA];omega)
   refine zq ?_;refine⟨fp sb m1.s1,fp b hb,?_⟩;refine zc ?_;rw[<-eh2];refine zq ?_;refine br (x2≠0) (by rw[bL hA]) (fun c0=>?_) (fun c0=>?_)<;>refine zc ?_
   rotate_left
   ·rcases sn with ⟨_,D',M',hD',rn⟩|⟨n1,_⟩
    ·exact ihD D' hD' M' h2 _ rc bs _ M2 rn
    ·exfalso;rw[he,<-ex2]at n1;exact c0 n1
   rcases sn with ⟨n1,_⟩|⟨n1,n2,n3,n4,M',hM',rn⟩
   ·exfalso;rw[he,<-ex2]at n1;exact c0 n1
   have p2k:Ext.put A k u2 k=u2:=Ext.eE u2;have p2n:∀z,z<k->Ext.put A k u2 z=A z:=fun z hz=>Ext.dS u2 (by omega)
   refine pP hA (sb:=sb) (r:=k) hl0 (by omega) (by omega) hw (fun z hz _=>by rw[p2n z hz];exact⟨r.base.stp.lt z hz,r.base.stp.pos z hz⟩) (by rw[p2k,n2];exact n3.congr p2n) M2 ecw (fun h3 m3 _=>?_);rw[p2k,n2,Ext.jG p2n k (Nat.le_refl _),Ext.gY]at m3;obtain⟨u3,eu3⟩:∃z,z=Ext.bm w A (Ext.aj w (A a)) k u2:=⟨_,rfl⟩;rw[<-eu3]at m3 rn;have hlow3:h3.low<=h3.next:=m3.rows.ext.lowOK hl0;have x16:Ext h3 (bump h3 16):=aq hA _ _;have m16:=m3.more x16;have y1:rd (bump h3 16) sb (addN 0 0) 1 [.slice (some ⟨b,0,none⟩) k rc]:=by rw[cB hA];exact gP hA (m16.own.readG (o:=0) (n:=1) (Nat.le_refl _))
   have y2:rd (bump h3 16) b (place 0 I 1) 1 [.slice (some ⟨bs a,0,none⟩) w cw]:=az hA (by
    rw[eI];obtain⟨b',e',_,q2⟩:=m16.head ha;cases e';rw[<-ecw]at q2;exact q2)
   obtain⟨b4,h4,e4,w4,m4⟩:=m16.swap ha;cases e4;have y3:wr (bump h3 16) b (place 0 I 1) [.slice (some ⟨bs k,0,none⟩) w cw] h4:=pZ hA (by rw[eI,ecw];exact w4);refine zq ?_;have fin:=ihM M' hM' h4 _ rc (fun y=>bs (Da a k y)) (Ext.put (Ext.put A a u3) k (A a)) (m4.congr (fun y x hy hx=>?_)) rn
   ·rw[show Da a k k=a by unfold Da;rw[if_neg (by omega),if_pos rfl]]at fin
    exact fin
   ·unfold Da
    by_cases c1:y=a
    ·rw[if_pos c1,c1,Ext.eE,Ext.dS _ (by omega),Ext.eE]
    ·rw[if_neg c1]
     by_cases c2:y=k
     ·rw[if_pos c2,c2,Ext.eE,Ext.dS _ (by omega)]
     ·rw[if_neg c2,Ext.dS _ c2,Ext.dS _ c2,Ext.dS _ c1]
 ·intro hi'
  have lo':∀y,y<a->Ext.aj w (A y)<Ext.aj w (A k):=fun y hy=>by have:=lo y hy;rw[a1n y (by omega)]at this;exact this
  obtain⟨o1,o2,o3,o4⟩:=r.own hM ak lo' hi' eu;obtain⟨x,ex⟩:∃z,z=u (Ext.aj w (A k)):=⟨_,rfl⟩;have r3:rd h1 (bs k) (place 0 C 1) 1 [.int .i64 x]:=az hA (by
   rw[eC,ex,<-a1k];exact m1.rows.el (show k<k+1 by omega) hcw)
  have hu0:u (Ext.aj w (A k))≠0:=by
   have:=Ext.jB (w:=w) (v:=u) (by rw[hlu];exact hcw);rw[hlu]at this;exact this
  refine zq ?_;apply zjh (fun hh=>∃A',lD h0 hh sb k (k+1) w ra rc bs A'/\(∀z,z<k->A' z=A z)/\Ext.pi w (k+1) (k+1) (Ext.iB A a (A' k)) F0)
  ·intro bx
   refine br (x<0) (by rw[au hA]) (fun c0=>?_) (fun c0=>?_)<;>refine zc ?_
   rotate_left
   ·refine zq ?_
    obtain⟨g,eg⟩:∃g,g=h1:=⟨_,rfl⟩;rw[<-eg];exact bx.o g ⟨A1,by rw[eg];exact m1,a1n,by rw[a1k];exact o3 (by omega)⟩
   obtain⟨v,ev⟩:∃z,z=fun j=>u j-2*u j:=⟨_,rfl⟩
   obtain⟨v1,v2,v3⟩:=o4 (by omega) v ev;refine zq ?_;refine xE hA hlow1 (show k<k+1 by omega) (show k<k+1 by omega) hw (fun j hj=>by rw[a1k];have:=o2 j;omega) m1.rows (fun h2 m2 st2=>?_);rw[a1k,<-ev,eA,Ext.gY]at m2;have M2:=m1.put (show k<k+1 by omega) m2 st2;have pk:Ext.put A k v k=v:=Ext.eE v;have pn:∀z,z<k->Ext.put A k v z=A z:=fun z hz=>Ext.dS v (by omega)
   refine zq ?_;refine pP hA (sb:=sb) (r:=k) hl0 (by omega) (by omega) hw (fun z hz _=>by rw[pn z hz];exact⟨r.base.stp.lt z hz,r.base.stp.pos z hz⟩) (by rw[pk,v1];exact v2.congr pn) M2 ecw (fun h3 m3 _=>?_);rw[pk,v1,Ext.jG pn k (Nat.le_refl _),Ext.gY]at m3;have r5:rd h3 sb (addN 0 0) 1 [.slice ra k rc]:=by rw[cB hA];exact gP hA (m3.own.readG (o:=0) (n:=1) (Nat.le_refl _))
   refine zq ?_;exact bx.o h3 ⟨_,m3,fun z hz=>Ext.dS _ (by omega),by rw[Ext.eE];exact v3⟩
  rintro hh ⟨A',m2,a2n,sk⟩;have hlowh:hh.low<=hh.next:=m2.rows.ext.lowOK hl0;have xp:Ext hh (push hh 1 [.slice (some ⟨bs k,0,none⟩) w cw]):=by rw[cM hA];exact .push _ _ _
  have mp:=m2.more xp;have ov:bG (push hh 1 [.slice (some ⟨bs k,0,none⟩) w cw]) (next hh) 1 [.slice (some ⟨bs k,0,none⟩) w cw]:=by rw[cM hA,bV hA];exact bG.push _ _ _
  have np:(push hh 1 [.slice (some ⟨bs k,0,none⟩) w cw]).next=hh.next+1:=by rw[cM hA];rfl
  have nv:next hh=hh.next:=bV hA hh;have hlt:=m2.apd.lt;generalize push hh 1 [.slice (some ⟨bs k,0,none⟩) w cw]=hp at *;rw[nv]at ov ⊢;generalize hh.next=vb at *;refine Fx hA hI hl0 mp.rows.ext (by omega) mp.apd mp.fr ak eI (by rw[ecw]at ov;exact ov) (by omega) (fun ad had=>by have:=hlt ad had;omega) (fun b h2 x2 n2 g2 b1 b2 o2=>?_);obtain⟨h3,w3,m3⟩:=mp.ins ak x2 n2 g2 b1 b2 o2;have m4:lD h0 h3 sb (k+1) (k+1) w (some ⟨b,0,none⟩) (ar 1 (k+1)) (fun y=>bs (oC a k y)) (Ext.iB A a (A' k)):=m3.congr (fun y x hy hx=>by
   show A' (oC a k y) x=Ext.iB A a (A' k) y x;rw[Eo (F:=A') (k:=k) ak y hy];unfold Ext.iB;by_cases c1:y<a
   ·rw[if_pos c1,if_pos c1,a2n y (by omega)]
   ·rw[if_neg c1,if_neg c1]
    by_cases c2:y=a
    ·rw[if_pos c2,if_pos c2]
    ·rw[if_neg c2,if_neg c2,a2n _ (by omega)])
  have hq:=fun kn T=>hQ h3 kn T _ _ _ _ m4 sk
  generalize ar 1 (k+1)=cc at *;generalize k+1=k1 at *;have w3:wr h2 sb (addN 0 0) [.slice (some ⟨b,0,none⟩) k1 cc] h3:=by rw[cB hA];exact jd hA w3
  refine⟨_,_,_,rfl,?_⟩;refine zq ?_;exact hq _ _
theorem DE{h0:af}(hl0:h0.low<=h0.next){sb K w:Nat}{ra:Option Addr}{rc kn:Nat}{T:List (Nat×List Value)}{bs:Nat->Nat}{F0:Nat->Ext.aJ}(hw:w<=1000){Q:Exit->SS->Prop}
  (hQ:∀(h':af) A,lD h0 h' sb K K w ra rc bs A->Ext.pi w K 0 A F0->Q (.exit 4) ⟨[],kn,T,h'⟩) :
  ∀(i:Nat) (I:Int) (h:af) (A:Nat->Ext.aJ),i<=K->I=(i:Int)-1->lD h0 h sb K K w ra rc bs A->Ext.pi w K i A F0->
   head 85 17 kn ⟨[(0,.pointer (some ⟨sb,0,none⟩)),(4,.func (.func 98) #[.pointer (some ⟨sb,0,none⟩)] #[]),(7,.int .i64 I)],kn,T,h⟩ Q:=by
 intro i
 induction i with
 |zero=>
  intro I h A hi eI m sk;refine hA.roundR Try.func85 r85_ok (zc ?_);refine br (0<=I) (by rw[bE hA]) (fun q=>by omega) (fun _=>?_)<;>refine zc ?_;exact hQ h A m sk
 |succ i ih=>
 intro I h A hi eI m sk;have k4:=sk.k4;have hlow:h.low<=h.next:=m.rows.ext.lowOK hl0;obtain⟨lo,sk2⟩:=sk.step (by omega);obtain⟨b,rfl,hb,q1⟩:=m.head (y:=i) (by omega);obtain⟨cw,ecw⟩:∃z,z=ar 1 w:=⟨_,rfl⟩;rw[<-ecw]at q1;have r1:rd h sb (addN 0 0) 1 [.slice (some ⟨b,0,none⟩) K rc]:=by rw[cB hA];exact gP hA (m.own.readG (o:=0) (n:=1) (Nat.le_refl _))
 have r2:rd h b (place 0 I 1) 1 [.slice (some ⟨bs i,0,none⟩) w cw]:=az hA (by rw[show I.toNat=i by omega];exact q1);refine hA.roundR Try.func85 r85_ok (zc ?_);refine br (0<=I) (by rw[bE hA]) (fun _=>?_) (fun q=>by omega)<;>refine zc ?_;refine zq ?_;refine pP hA (sb:=sb) (r:=i) hl0 (by omega) (by omega) hw (fun y hy _=>⟨sk.stp.lt y hy,sk.stp.pos y hy⟩) lo m ecw (fun h1 m1 _=>?_);refine zq ?_;rw[bD hA (by omega) (by omega)];exact ih (I-1) h1 _ (by omega) (by omega) m1 sk2
theorem JK(hI:ph F){h0 h:af}(hl0:h0.low<=h0.next){sb k w cw rc D M:Nat}{ra:Option Addr}{bs:Nat->Nat}{A F0:Nat->Ext.aJ}(hw:w<=1000)(ecw:cw=ar 1 w)(hM:∀i,i<k+1->∀j,(F0 i j).natAbs<=9)(m:lD h0 h sb k (k+1) w ra rc bs A)(r:Ext.AD w k A F0 D M){Q:Value->af->Prop}
  (hQ:∀h' ra' rc' bs' A',lD h0 h' sb (k+1) (k+1) w ra' rc' bs' A'->Ext.pi w (k+1) 0 A' F0->Q (.tuple #[]) h') :
  call 85 [.pointer (some ⟨sb,0,none⟩),.slice (some ⟨bs k,0,none⟩) w cw] h Q:=by
 have hlow:h.low<=h.next:=m.rows.ext.lowOK hl0;refine hA.bodyR Try.func85 r85_ok (hA.alike _ _ _ rfl) hlow (zc ?_);refine zq ?_;refine FZ hA hI (sb:=sb) hl0 hw ecw hM (fun h1 kn T ra' rc' bs' A1 m1 sk=>?_) D M h ra rc bs A m r;obtain⟨K,eK⟩:∃z:Int,z=((k+1:Nat):Int):=⟨_,rfl⟩;have e1:ofNat (k+1)=K:=by rw[eK];exact aF hA _
 have r1:rd h1 sb (addN 0 0) 1 [.slice ra' (k+1) rc']:=by rw[cB hA];exact gP hA (m1.own.readG (o:=0) (n:=1) (Nat.le_refl _))
 have k3:=sk.k4;generalize hk1:k+1=k1 at *
 (refine zq ?_;repeat ((first|rw[e1]);refine zq ?_))
 rw[bD hA (by omega) (by omega)];refine DE hA (sb:=sb) hl0 hw (fun h2 A2 m2 sk2=>?_) k1 (K-1) h1 A1 (Nat.le_refl _) (by omega) m1 sk;refine zc ?_;exact hQ h2 ra' rc' bs' A2 m2 sk2
