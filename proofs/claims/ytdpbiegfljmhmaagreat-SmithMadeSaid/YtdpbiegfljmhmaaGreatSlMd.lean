import Derived.Test.YtdpbiegfljmhmaaGreatSlA
set_option linter.unusedSimpArgs false
set_option linter.unusedVariables false
namespace Go.Proofs.YtdpbiegfljmhmaaGreat
open Go.cS
set_option maxRecDepth 100000
structure lM{α:Type}[Inhabited α](le:α->α->Prop)(L:List α)(a b i j:Int):Prop where
 i0:a<i
 j1:j<b
 ij:i<=j+1
 low:∀p:Int,a<p->p<i->le (gt L p) (gt L a)
theorem lM.left{α:Type}[Inhabited α]{le:α->α->Prop}{L:List α}{a b i j:Int}(h:lM le L a b i j)(c:i<=j)(w:le (gt L i) (gt L a)):lM le L a b (i+1) j:=
 ⟨by have:=h.i0;omega,h.j1,om,fun p p0 p1=>by
  by_cases e:p=i
  ·rw[e];exact w
  ·exact h.low p p0 om⟩
theorem lM.right{α:Type}[Inhabited α]{le:α->α->Prop}{L:List α}{a b i j:Int}(h:lM le L a b i j)(c:i<=j):lM le L a b i (j-1):=⟨h.i0,by have:=h.j1;omega,om,h.low⟩
theorem lM.swap{α:Type}[Inhabited α]{le:α->α->Prop}{L:List α}{a b i j:Int}(a0:0<=a)(hb:b<=L.length)(h:lM le L a b i j)(c:i<j)(w:le (gt L j) (gt L a)):lM le (dB L i j) a b (i+1) (j-1):=by
 have hi:=h.i0;have hj:=h.j1;have g:∀k:Int,0<=k->gt (dB L i j) k=if k=j then gt L i else if k=i then gt L j else gt L k:=fun k k0=>jw L om om om om k0
 refine⟨om,om,om,fun p p0 p1=>?_⟩;rw[g p om,g a a0,if_neg (show ¬p=j by omega),if_neg (show ¬a=j by omega),if_neg (show ¬a=i by omega)];by_cases e:p=i
 ·rw[if_pos e];exact w
 ·rw[if_neg e];exact h.low p p0 om
structure wu(h0 h:af)(b sb:Nat)(v:Value):Prop where
 own:bW h sb 1 [v]
 lt:sb<h.next
 cJ:h0.next<=sb
 ne:sb≠b
theorem wu.more{h0 h h':af}{b sb:Nat}{v:Value}(t:wu h0 h b sb v)(e:Ext h h'):wu h0 h' b sb v:=⟨t.own.ext e t.lt,Nat.lt_of_lt_of_le t.lt e.next,t.cJ,t.ne⟩
theorem wu.put{h0 h:af}{b sb n:Nat}{v:Value}{L:List LE}(t:wu h0 h b sb v)(d:bq h0 h b n L)(w:Value):∃h',h.write sb 0 [w]=some h'/\wu h0 h' b sb w/\bq h0 h' b n L:=by
 obtain⟨h',w1,w2,w3⟩:=t.own.write (o:=0) (vs:=[w]) (by simp);exact⟨h',w1,⟨w2,by rw[w3.next];exact t.lt,t.cJ,t.ne⟩,⟨w3.ext d.ext t.cJ,w3.own d.own (Ne.symm t.ne),d.cJ,by rw[w3.next];exact d.lt,d.len,d.base,d.ok,d.gn⟩⟩
variable{F:aZ}{call head arith b0 c0 d0 e0 g0 m0 n0 o0 s0 t0 u0 v0 nz w0 rd wr push next x0 y0 z0 d1 u1 z1 c2 d2 n2 o2 u2 z2 c3 fresh az aG d3 l3 lt ne n3 o3 p3 yn u3 y3 z3 a4 c4 d4:_}(hA:AP F ⟨call,head,arith,b0,c0,d0,e0,g0,m0,n0,o0,s0,t0,u0,v0,nz,w0,rd,wr,push,next,x0,y0,z0,d1,u1,z1,c2,d2,n2,o2,u2,z2,c3,fresh,az,aG,d3,l3,lt,ne,n3,o3,p3,yn,u3,y3,z3,a4,c4,d4⟩)
include hA
theorem JI{h0:af}(aq:h0.low<=h0.next){b n c:Nat}{L0:List LE}{A B i:Int}(a0:0<=A)(ab:B<=n)(ai:A<i)(ib:i<B){Q:Exit->SS->Prop}
  (hQ:∀h' L kn,bq h0 h' b n L->aJ A B L0 L->aH gD L A (i+1)->Q (.exit 2) ⟨[(0,.slice (some ⟨b,0,none⟩) n c),(1,.int .i64 A),(2,.int .i64 B),(3,.func (.func 51) #[] #[]),(8,.int .i64 i)],kn,[],h'⟩) :
  ∀(m:Nat) (j:Int) (h:af) (L:List LE),(j-A).toNat<=m->A<=j->j<=i->bq h0 h b n L->aJ A B L0 L->oE gD L A i j->
   head 91 4 0 ⟨[(0,.slice (some ⟨b,0,none⟩) n c),(1,.int .i64 A),(2,.int .i64 B),(3,.func (.func 51) #[] #[]),(8,.int .i64 i),(9,.int .i64 j)],0,[],h⟩ Q:=by
 intro m
 induction m with
 |zero=>
  intro j h L hm j0 j1 t hp hI;obtain rfl:j=A:=om
  refine hA.ar Tryz.func91 x91.2 (zc ?_);refine br (j<j) (by rw[dc hA]) (fun q=>om) (fun _=>?_)<;>refine zc ?_;exact hQ _ _ _ (t.more (au hA _ _)) hp hI.first
 |succ m ih=>
  intro j h L hm j0 j1 t hp hI;by_cases cj:A<j
  rotate_left
  ·obtain rfl:j=A:=om
   refine hA.ar Tryz.func91 x91.2 (zc ?_);refine br (j<j) (by rw[dc hA]) (fun q=>om) (fun _=>?_)<;>refine zc ?_;exact hQ _ _ _ (t.more (au hA _ _)) hp hI.first
  have gn:=t.gn;have e1:arith .sub .i64 j 1=j-1:=bP hA om om;obtain⟨j',XI⟩:∃z,z=j-1:=⟨_,rfl⟩;rw[<-XI]at e1;obtain⟨h9,iT⟩:∃z,z=aG h 17:=⟨_,rfl⟩;have x9:Ext h h9:=by rw[iT];exact au hA _ _
  have t9:=t.more x9;have l9:=t9.ext.aC aq;obtain⟨x1x,x1y,x1z,y1,g1,f1,r1⟩:=t9.read (i:=j) om om;obtain⟨x2x,x2y,x2z,y2,g2,f2,r2⟩:=t9.read (i:=j') om om;have q1:=aD hA r1;have q2:=aD hA r2;refine hA.ar Tryz.func91 x91.2 (zc ?_);refine br (A<j) (by rw[dc hA]) (fun _=>?_) (fun q=>absurd cj q)<;>refine zc ?_;rw[<-iT]
  (refine zq ?_;repeat ((first|rw[e1]);refine zq ?_))
  refine fx hA (aB hA h9) (dC hA f1) (dC hA f2) (fun u BA hu x10=>⟨_,rfl,?_⟩);refine zc ?_;obtain⟨NX,Mm⟩:∃z,z=az h9 BA:=⟨_,rfl⟩;have Sw:Ext h9 NX:=by rw[Mm];exact cI hA l9 (.refl h9) x10
  have t11:=t9.more Sw;rw[<-Mm];refine br (u<0) (by rw[aA hA]) (fun c1=>?_) (fun c1=>?_)<;>refine zc ?_
  rotate_left
  ·refine hQ _ _ _ t11 hp (hI.stop dN cj ?_)
   rw[<-XI];rw[hu]at c1;exact LL.not_lt.1 (fun w=>c1 (cO.2 w))
  have w:¬gD (gt L (j-1)) (gt L j):=by
   rw[<-XI];rw[hu]at c1;exact LL.not_le.2 (cO.1 c1)
  obtain⟨Pe,DU⟩:∃z,z=aG NX 18:=⟨_,rfl⟩;have x12:Ext NX Pe:=by rw[DU];exact au hA _ _
  have t12:=t11.more x12;obtain⟨x1'x,x1'y,x1'z,y1',g1',_,r1'⟩:=t12.read (i:=j) om om;obtain⟨x2'x,x2'y,x2'z,y2',zL,_,qU⟩:=t12.read (i:=j') om om;rw[g1]at g1';rw[g2]at zL;cases g1';cases zL;have q1':=aD hA r1';have EP:=aD hA qU;obtain⟨Y9,Xp,p1,p2,t14⟩:=cY hA t12 (i:=j) (j:=j') om om om om g1 g2;rw[<-DU]
  (refine zq ?_;repeat ((first|rw[e1]);refine zq ?_))
  refine ih j' Xp _ om om om t14 (hp.trans (aJ.swap L om (by rw[t.len];exact ab) om om om om)) ?_;have:=hI.step dN om (by rw[t.len];omega) cj j1 w;rw[<-XI]at this;exact this
theorem JJ{h0:af}(aq:h0.low<=h0.next){b n c:Nat}{L0:List LE}{A B:Int}(a0:0<=A)(ab:B<=n){Q:Exit->SS->Prop}
  (hQ:∀h' L e kn,bq h0 h' b n L->aJ A B L0 L->aH gD L A B->Q (.exit 0) ⟨e,kn,[],h'⟩) :
  ∀(m:Nat) (i:Int) (h:af) (L:List LE),(B-i).toNat<=m->A<i->bq h0 h b n L->aJ A B L0 L->aH gD L A i->
   head 91 1 0 ⟨[(0,.slice (some ⟨b,0,none⟩) n c),(1,.int .i64 A),(2,.int .i64 B),(3,.func (.func 51) #[] #[]),(8,.int .i64 i)],0,[],h⟩ Q:=by
 intro m
 induction m with
 |zero=>
  intro i h L hm i0 t hp hs;refine hA.ar Tryz.func91 x91.2 (zc ?_);refine br (i<B) (by rw[aA hA]) (fun q=>om) (fun _=>?_)<;>refine zc ?_;exact hQ _ _ _ _ t hp (fun p q p0 pq q1=>hs p q p0 pq om)
 |succ m ih=>
  intro i h L hm i0 t hp hs;have gn:=t.gn;refine hA.ar Tryz.func91 x91.2 (zc ?_);refine br (i<B) (by rw[aA hA]) (fun ci=>?_) (fun _=>?_)<;>refine zc ?_
  rotate_left
  ·exact hQ _ _ _ _ t hp (fun p q p0 pq q1=>hs p q p0 pq om)
  refine JI hA aq (L0:=L0) a0 ab i0 ci (fun h' L' kn t' vt qO=>?_) (i-A).toNat i h L (Nat.le_refl _) om om t hp (.start hs);refine zc ?_;rw[aF hA om om];exact ih (i+1) h' L' om om t' vt qO
theorem yu{h0 h:af}(aq:h0.low<=h0.next){b n c:Nat}{L:List LE}{A B:Int}(a0:0<=A)(an:A<=n)(ab:B<=n)(t:bq h0 h b n L){Q:Value->af->Prop}
  (hQ:∀h' L',bq h0 h' b n L'->aJ A B L L'->aH gD L' A B->Q (.tuple #[]) h'):call 91 [.slice (some ⟨b,0,none⟩) n c,.int .i64 A,.int .i64 B,.func (.func 51) #[] #[]] h Q:=by
 have cZ:=aq
 replace aq:=t.ext.aC aq
 have gn:=t.gn;refine hA.aN Tryz.func91 x91.2 (hA.alike _ _ _ rfl) aq (zc ?_);rw[aF hA om om];refine JJ hA cZ (L0:=L) a0 ab (fun h' L' e kn t' hp hs=>?_) (B-(A+1)).toNat (A+1) h L (Nat.le_refl _) om t (.refl _ _ _) (.one om);refine zc ?_;exact hQ h' L' t' hp hs
set_option maxHeartbeats 4000000 in
theorem JK{h0:af}(aq:h0.low<=h0.next){b n c':Nat}{L0:List LE}{f lo hi:Int}(f0:0<=f)(l0:0<=lo)(hn:f+hi<=n){Q:Exit->SS->Prop}
  (hQ:∀h' L x e kn,(x=.exit 0\/x=.ret)->bq h0 h' b n L->aJ f (f+hi) L0 L->mI gD L f lo hi->Q x ⟨e,kn,[],h'⟩) :
  ∀(m:Nat) (r:Int) (h:af) (L:List LE),(hi-r).toNat<=m->lo<=r->r<=100000->bq h0 h b n L->aJ f (f+hi) L0 L->oF gD L f lo hi r->
   head 110 1 0 ⟨[(0,.slice (some ⟨b,0,none⟩) n c'),(2,.int .i64 hi),(3,.int .i64 f),(4,.func (.func 51) #[] #[]),(10,.int .i64 r)],0,[],h⟩ Q:=by
 intro m
 induction m with
 |zero=>
  intro r h L hm r0 r1 t hp hX;have gn:=t.gn;have e1:arith .mul .i64 2 r=2*r:=jn hA om om;obtain⟨c,hc⟩:∃z,z=2*r+1:=⟨_,rfl⟩;have e2:arith .add .i64 (2*r) 1=c:=by rw[hc];exact aF hA om om
  refine hA.ar Tryz.func110 Br (zc ?_);rw[e1,e2];refine br (hi<=c) (by rw[bY hA]) (fun _=>?_) (fun q=>om)<;>refine zc ?_;exact hQ _ L _ _ _ (.inl rfl) t hp (hX.leaf om)
 |succ m ih=>
  intro r h L hm r0 r1 t hp hX;have gn:=t.gn;have e1:arith .mul .i64 2 r=2*r:=jn hA om om;obtain⟨k,hk⟩:∃z,z=2*r+1:=⟨_,rfl⟩;have e2:arith .add .i64 (2*r) 1=k:=by rw[hk];exact aF hA om om
  refine hA.ar Tryz.func110 Br (zc ?_);rw[e1,e2];refine br (hi<=k) (by rw[bY hA]) (fun _=>?_) (fun ck=>?_)<;>refine zc ?_
  ·exact hQ _ L _ _ _ (.inl rfl) t hp (hX.leaf om)
  obtain⟨k1,ED⟩:∃z,z=k+1:=⟨_,rfl⟩;have e3:arith .add .i64 k 1=k1:=by rw[ED];exact aF hA om om
  rw[e3];refine br (k1<hi) (by rw[aA hA]) (fun ck1=>?_) (fun ck1=>?_)<;>refine zc ?_
  rotate_left
  ·obtain⟨hT,VK⟩:∃z,z=aG h 22:=⟨_,rfl⟩
   have tT:=t.more (show Ext h hT by rw[VK];exact au hA _ _);rw[<-VK];obtain⟨c,Wa⟩:∃z,z=k:=⟨_,rfl⟩;rw[<-Wa];have NN:c=2*r+1\/c=2*r+2:=om
   have Wb:c<hi:=om
   have hc:∀k:Int,0<k->k<hi->par k=r->gD (gt L (f+k)) (gt L (f+c)):=fun k' k0 XA k2=>by
    have:=B6 k2 k0;rw[show k'=c by omega];exact dN.refl _
   have Na:arith .add .i64 f r=f+r:=aF hA om om;have Nb:arith .add .i64 f c=f+c:=aF hA om om;obtain⟨fr,uJ⟩:∃z,z=f+r:=⟨_,rfl⟩;obtain⟨fc,H4⟩:∃z,z=f+c:=⟨_,rfl⟩;rw[<-uJ]at Na;rw[<-H4]at Nb;obtain⟨h3,Q8⟩:∃z,z=aG hT 16:=⟨_,rfl⟩;have x3:Ext hT h3:=by rw[Q8];exact au hA _ _
   have t3:=tT.more x3;obtain⟨a3x,a3y,a3z,b3,g3,f3,r3⟩:=t3.read (i:=fr) om om;obtain⟨Wc,We,Wf,b3',g3',Wg,Wh⟩:=t3.read (i:=fc) om om;have q3:=aD hA r3;have V8:=aD hA Wh;rw[<-Q8]
   (refine zq ?_;repeat ((first|rw[Na]|rw[Nb]);refine zq ?_))
   refine fx hA (aB hA h3) (dC hA f3) (dC hA Wg) (fun v Wi hv x3a=>⟨_,rfl,?_⟩);have Q9:=dF hA aq t3 x3a;refine zc ?_;generalize az h3 Wi=Ra at *;refine br (0<=v) (by rw[bZ hA,aA hA];by_cases z:v<0<;>simp[z]<;>omega) (fun cv=>?_) (fun cv=>?_)<;>refine zc ?_
   ·refine hQ _ L _ _ _ (.inr rfl) Q9 hp (hX.stop dN hc ?_)
    rw[hv]at cv;rw[<-uJ,<-H4];exact LL.not_lt.1 (fun w=>by have:=cO.2 w;omega)
   have w:gD (gt L (f+r)) (gt L (f+c)):=by
    rw[hv]at cv;rw[<-uJ,<-H4];exact LL.le_of_lt (cO.1 om)
   obtain⟨h4,Rc⟩:∃z,z=aG Ra 24:=⟨_,rfl⟩;have x4:Ext Ra h4:=by rw[Rc];exact au hA _ _
   have t4:=Q9.more x4;obtain⟨a4x,a4y,a4z,b4,g4,f4,r4⟩:=t4.read (i:=fr) om om;obtain⟨Wj,Wk,Wl,b4',Wm,f4',Wn⟩:=t4.read (i:=fc) om om;have q4:=aD hA r4;have q4':=aD hA Wn;rw[<-Rc];obtain⟨h4c,Wo,p4,p4',Wp⟩:=cY hA t4 (i:=fr) (j:=fc) om om om om g4 Wm
   (refine zq ?_;repeat ((first|rw[Na]|rw[Nb]);refine zq ?_))
   refine ih c Wo _ om om om Wp (hp.trans (aJ.swap L om (by have:=t.len;omega) om om om om)) ?_;rw[uJ,H4];exact hX.step dN om l0 (by have:=t.len;omega) r0 NN Wb hc w
  have efk:arith .add .i64 f k=f+k:=aF hA om om;obtain⟨fk,hfk⟩:∃z,z=f+k:=⟨_,rfl⟩;rw[<-hfk]at efk;obtain⟨XJ,ZT⟩:∃z,z=fk+1:=⟨_,rfl⟩;have ZU:arith .add .i64 fk 1=XJ:=by rw[ZT];exact aF hA om om
  obtain⟨h2,lO⟩:∃z,z=aG h 22:=⟨_,rfl⟩;have x2:Ext h h2:=by rw[lO];exact au hA _ _
  have t2:=t.more x2;obtain⟨Gy,Gz,GA,b2,g2,f2,r2⟩:=t2.read (i:=fk) om om;obtain⟨rZ,r8,se,Ah,zL,tK,qU⟩:=t2.read (i:=XJ) om om;have q2:=aD hA r2;have EP:=aD hA qU;rw[<-lO]
  (refine zq ?_;repeat ((first|rw[efk]|rw[ZU]);refine zq ?_))
  refine fx hA (aB hA h2) (dC hA f2) (dC hA tK) (fun u vJ hu x2a=>⟨_,rfl,?_⟩);have oN:=dF hA aq t2 x2a;refine zc ?_;generalize az h2 vJ=oO at *;have tT:=oN;generalize oO=hT at *;refine br (u<0) (by rw[aA hA]) (fun cu=>?_) (fun cu=>?_)<;>refine zc ?_
  ·rw[hu]at cu
   rw[e3];obtain⟨c,Wa⟩:∃z,z=k1:=⟨_,rfl⟩;rw[<-Wa];have NN:c=2*r+1\/c=2*r+2:=om
   have Wb:c<hi:=om
   have hc:∀k:Int,0<k->k<hi->par k=r->gD (gt L (f+k)) (gt L (f+c)):=fun k' k0 XA k2=>by
    rcases B6 k2 k0 with e|e
    ·rw[show f+k'=fk by omega,show f+c=XJ by omega]
     exact LL.le_of_lt (cO.1 cu)
    ·rw[show k'=c by omega]
     exact dN.refl _
   have Na:arith .add .i64 f r=f+r:=aF hA om om;have Nb:arith .add .i64 f c=f+c:=aF hA om om;obtain⟨fr,uJ⟩:∃z,z=f+r:=⟨_,rfl⟩;obtain⟨fc,H4⟩:∃z,z=f+c:=⟨_,rfl⟩;rw[<-uJ]at Na;rw[<-H4]at Nb;obtain⟨h3,Q8⟩:∃z,z=aG hT 16:=⟨_,rfl⟩;have x3:Ext hT h3:=by rw[Q8];exact au hA _ _
   have t3:=tT.more x3;obtain⟨a3x,a3y,a3z,b3,g3,f3,r3⟩:=t3.read (i:=fr) om om;obtain⟨Wc,We,Wf,b3',g3',Wg,Wh⟩:=t3.read (i:=fc) om om;have q3:=aD hA r3;have V8:=aD hA Wh;rw[<-Q8]
   (refine zq ?_;repeat ((first|rw[Na]|rw[Nb]);refine zq ?_))
   refine fx hA (aB hA h3) (dC hA f3) (dC hA Wg) (fun v Wi hv x3a=>⟨_,rfl,?_⟩);have Q9:=dF hA aq t3 x3a;refine zc ?_;generalize az h3 Wi=Ra at *;refine br (0<=v) (by rw[bZ hA,aA hA];by_cases z:v<0<;>simp[z]<;>omega) (fun cv=>?_) (fun cv=>?_)<;>refine zc ?_
   ·refine hQ _ L _ _ _ (.inr rfl) Q9 hp (hX.stop dN hc ?_)
    rw[hv]at cv;rw[<-uJ,<-H4];exact LL.not_lt.1 (fun w=>by have:=cO.2 w;omega)
   have w:gD (gt L (f+r)) (gt L (f+c)):=by
    rw[hv]at cv;rw[<-uJ,<-H4];exact LL.le_of_lt (cO.1 om)
   obtain⟨h4,Rc⟩:∃z,z=aG Ra 24:=⟨_,rfl⟩;have x4:Ext Ra h4:=by rw[Rc];exact au hA _ _
   have t4:=Q9.more x4;obtain⟨a4x,a4y,a4z,b4,g4,f4,r4⟩:=t4.read (i:=fr) om om;obtain⟨Wj,Wk,Wl,b4',Wm,f4',Wn⟩:=t4.read (i:=fc) om om;have q4:=aD hA r4;have q4':=aD hA Wn;rw[<-Rc];obtain⟨h4c,Wo,p4,p4',Wp⟩:=cY hA t4 (i:=fr) (j:=fc) om om om om g4 Wm
   (refine zq ?_;repeat ((first|rw[Na]|rw[Nb]);refine zq ?_))
   refine ih c Wo _ om om om Wp (hp.trans (aJ.swap L om (by have:=t.len;omega) om om om om)) ?_;rw[uJ,H4];exact hX.step dN om l0 (by have:=t.len;omega) r0 NN Wb hc w
  ·rw[hu]at cu
   obtain⟨c,Wa⟩:∃z,z=k:=⟨_,rfl⟩;rw[<-Wa];have NN:c=2*r+1\/c=2*r+2:=om
   have Wb:c<hi:=om
   have hc:∀k:Int,0<k->k<hi->par k=r->gD (gt L (f+k)) (gt L (f+c)):=fun k' k0 XA k2=>by
    rcases B6 k2 k0 with e|e
    ·rw[show k'=c by omega]
     exact dN.refl _
    ·rw[show f+k'=XJ by omega,show f+c=fk by omega]
     exact LL.not_lt.1 (fun w=>cu (cO.2 w))
   have Na:arith .add .i64 f r=f+r:=aF hA om om;have Nb:arith .add .i64 f c=f+c:=aF hA om om;obtain⟨fr,uJ⟩:∃z,z=f+r:=⟨_,rfl⟩;obtain⟨fc,H4⟩:∃z,z=f+c:=⟨_,rfl⟩;rw[<-uJ]at Na;rw[<-H4]at Nb;obtain⟨h3,Q8⟩:∃z,z=aG hT 16:=⟨_,rfl⟩;have x3:Ext hT h3:=by rw[Q8];exact au hA _ _
   have t3:=tT.more x3;obtain⟨a3x,a3y,a3z,b3,g3,f3,r3⟩:=t3.read (i:=fr) om om;obtain⟨Wc,We,Wf,b3',g3',Wg,Wh⟩:=t3.read (i:=fc) om om;have q3:=aD hA r3;have V8:=aD hA Wh;rw[<-Q8]
   (refine zq ?_;repeat ((first|rw[Na]|rw[Nb]);refine zq ?_))
   refine fx hA (aB hA h3) (dC hA f3) (dC hA Wg) (fun v Wi hv x3a=>⟨_,rfl,?_⟩);have Q9:=dF hA aq t3 x3a;refine zc ?_;generalize az h3 Wi=Ra at *;refine br (0<=v) (by rw[bZ hA,aA hA];by_cases z:v<0<;>simp[z]<;>omega) (fun cv=>?_) (fun cv=>?_)<;>refine zc ?_
   ·refine hQ _ L _ _ _ (.inr rfl) Q9 hp (hX.stop dN hc ?_)
    rw[hv]at cv;rw[<-uJ,<-H4];exact LL.not_lt.1 (fun w=>by have:=cO.2 w;omega)
   have w:gD (gt L (f+r)) (gt L (f+c)):=by
    rw[hv]at cv;rw[<-uJ,<-H4];exact LL.le_of_lt (cO.1 om)
   obtain⟨h4,Rc⟩:∃z,z=aG Ra 24:=⟨_,rfl⟩;have x4:Ext Ra h4:=by rw[Rc];exact au hA _ _
   have t4:=Q9.more x4;obtain⟨a4x,a4y,a4z,b4,g4,f4,r4⟩:=t4.read (i:=fr) om om;obtain⟨Wj,Wk,Wl,b4',Wm,f4',Wn⟩:=t4.read (i:=fc) om om;have q4:=aD hA r4;have q4':=aD hA Wn;rw[<-Rc];obtain⟨h4c,Wo,p4,p4',Wp⟩:=cY hA t4 (i:=fr) (j:=fc) om om om om g4 Wm
   (refine zq ?_;repeat ((first|rw[Na]|rw[Nb]);refine zq ?_))
   refine ih c Wo _ om om om Wp (hp.trans (aJ.swap L om (by have:=t.len;omega) om om om om)) ?_;rw[uJ,H4];exact hX.step dN om l0 (by have:=t.len;omega) r0 NN Wb hc w
theorem H5{h0 h:af}(aq:h0.low<=h0.next){b n c:Nat}{L:List LE}{f lo hi:Int}(f0:0<=f)(l0:0<=lo)(l1:lo<=100000)(hn:f+hi<=n)(t:bq h0 h b n L)(hX:oF gD L f lo hi lo){Q:Value->af->Prop}
  (hQ:∀h' L',bq h0 h' b n L'->aJ f (f+hi) L L'->mI gD L' f lo hi->Q (.tuple #[]) h'):call 110 [.slice (some ⟨b,0,none⟩) n c,.int .i64 lo,.int .i64 hi,.int .i64 f,.func (.func 51) #[] #[]] h Q:=by
 have cZ:=aq
 replace aq:=t.ext.aC aq
 refine hA.aN Tryz.func110 Br (hA.alike _ _ _ rfl) aq (zc ?_);refine JK hA cZ (L0:=L) f0 l0 hn (fun h' L' x e kn hx t' hp hh=>?_) (hi-lo).toNat lo h L (Nat.le_refl _) (Int.le_refl _) l1 t (.refl _ _ _) hX;rcases hx with rfl|rfl
 ·refine zc ?_
  exact hQ h' L' t' hp hh
 ·refine zc ?_
  exact hQ h' L' t' hp hh
theorem GB{h0:af}(aq:h0.low<=h0.next){b n c:Nat}{L0:List LE}{f hi:Int}(f0:0<=f)(hn:f+hi<=n){Q:Exit->SS->Prop}
  (hQ:∀h' L,bq h0 h' b n L->aJ f (f+hi) L0 L->mI gD L f 0 hi->Q (.exit 0) ⟨[(0,.slice (some ⟨b,0,none⟩) n c),(3,.func (.func 51) #[] #[]),(8,.int .i64 f),(9,.int .i64 0),(10,.int .i64 hi)],0,[],h'⟩) :
  ∀(m:Nat) (i:Int) (h:af) (L:List LE),(i+1).toNat<=m->-1<=i->i<=100000->bq h0 h b n L->aJ f (f+hi) L0 L->mI gD L f (i+1) hi->
   head 92 4 0 ⟨[(0,.slice (some ⟨b,0,none⟩) n c),(3,.func (.func 51) #[] #[]),(8,.int .i64 f),(9,.int .i64 0),(10,.int .i64 hi),(11,.int .i64 i)],0,[],h⟩ Q:=by
 intro m
 induction m with
 |zero=>
  intro i h L hm i0 i1 t hp hh;obtain rfl:i=-1:=om
  refine hA.ar Tryz.func92 x92.2 (zc ?_);refine br False (by rw[bY hA];rfl) (fun q=>q.elim) (fun _=>?_)<;>refine zc ?_;exact hQ h L t hp hh
 |succ m ih=>
  intro i h L hm i0 i1 t hp hh;refine hA.ar Tryz.func92 x92.2 (zc ?_);refine br (0<=i) (by rw[bY hA]) (fun ci=>?_) (fun ci=>?_)<;>refine zc ?_
  rotate_left
  ·obtain rfl:i=-1:=om
   exact hQ h L t hp hh
  refine H5 hA aq f0 ci i1 hn t (.start ci hh) (fun h' L' t' vt zh=>?_);refine zc ?_;rw[bP hA om om];exact ih (i-1) h' L' om om om t' (hp.trans vt) (by rw[show i-1+1=i by omega];exact zh)
theorem Nc{h0:af}(aq:h0.low<=h0.next){b n c:Nat}{L0:List LE}{f B:Int}(f0:0<=f)(hn:B<=n){Q:Exit->SS->Prop}
  (hQ:∀h' L e kn,bq h0 h' b n L->aJ f B L0 L->aH gD L f B->Q (.exit 2) ⟨e,kn,[],h'⟩) :
  ∀(m:Nat) (i:Int) (h:af) (L:List LE),(i+1).toNat<=m->-1<=i->f+i<B->bq h0 h b n L->aJ f B L0 L->M9 gD L f (f+i+1) B->
   head 92 8 0 ⟨[(0,.slice (some ⟨b,0,none⟩) n c),(3,.func (.func 51) #[] #[]),(8,.int .i64 f),(9,.int .i64 0),(12,.int .i64 i)],0,[],h⟩ Q:=by
 intro m
 induction m with
 |zero=>
  intro i h L hm i0 i1 t hp hh;obtain rfl:i=-1:=om
  refine hA.ar Tryz.func92 x92.2 (zc ?_);refine br False (by rw[bY hA];rfl) (fun q=>q.elim) (fun _=>?_)<;>refine zc ?_;exact hQ h L _ _ t hp (by have:=hh.up;rw[show f + -1+1=f by omega]at this;exact this)
 |succ m ih=>
  intro i h L hm i0 i1 t hp hh;have gn:=t.gn;refine hA.ar Tryz.func92 x92.2 (zc ?_);refine br (0<=i) (by rw[bY hA]) (fun ci=>?_) (fun ci=>?_)<;>refine zc ?_
  rotate_left
  ·obtain rfl:i=-1:=om
   exact hQ h L _ _ t hp (by have:=hh.up;rw[show f + -1+1=f by omega]at this;exact this)
  have efi:arith .add .i64 f i=f+i:=aF hA om om;obtain⟨fi,hfi⟩:∃z,z=f+i:=⟨_,rfl⟩;rw[<-hfi]at efi hh;obtain⟨h2,lO⟩:∃z,z=aG h 20:=⟨_,rfl⟩;have x2:Ext h h2:=by rw[lO];exact au hA _ _
  have t2:=t.more x2;obtain⟨Gy,Gz,GA,b2,g2,f2,r2⟩:=t2.read (i:=f) om om;obtain⟨rZ,r8,se,Ah,zL,tK,qU⟩:=t2.read (i:=fi) om om;have q2:=aD hA r2;have EP:=aD hA qU;rw[<-lO];obtain⟨h2c,XK,p2,Wq,Wr⟩:=cY hA t2 (i:=f) (j:=fi) om om om om g2 zL
  (refine zq ?_;repeat ((first|rw[efi]);refine zq ?_))
  obtain⟨k1,k2,k3⟩:=hh.swap dN f0 (by have:=t.len;omega) om om;rw[show fi-f=i by omega]at k1;have hsw:=aJ.swap (a:=f) (b:=B) L (i:=f) (j:=fi) f0 (by have:=t.len;omega) om om om om;refine H5 hA aq f0 om om om Wr k1 (fun h' L' t' vt zh=>?_);refine zc ?_;rw[bP hA om om];rw[<-hfi]at vt;obtain⟨k4,k5⟩:=vt.dG f0 om k2 k3;refine ih (i-1) h' L' om om om t' ((hp.trans hsw).trans (vt.wide f0 om om)) ?_;rw[show f+(i-1)+1=fi by omega];exact⟨by rw[show fi-f=i by omega];exact zh,k4,k5⟩
theorem PL{h0 h:af}(aq:h0.low<=h0.next){b n c:Nat}{L:List LE}{A B:Int}(a0:0<=A)(ab:A<B)(bn:B<=n)(t:bq h0 h b n L){Q:Value->af->Prop}
  (hQ:∀h' L',bq h0 h' b n L'->aJ A B L L'->aH gD L' A B->Q (.tuple #[]) h'):call 92 [.slice (some ⟨b,0,none⟩) n c,.int .i64 A,.int .i64 B,.func (.func 51) #[] #[]] h Q:=by
 have cZ:=aq
 replace aq:=t.ext.aC aq
 have gn:=t.gn;obtain⟨hi,TT⟩:∃z,z=B-A:=⟨_,rfl⟩;have e1:arith .sub .i64 B A=hi:=by rw[TT];exact bP hA om om
 obtain⟨hj,hhj⟩:∃z,z=hi-1:=⟨_,rfl⟩;have e2:arith .sub .i64 hi 1=hj:=by rw[hhj];exact bP hA om om
 have e3:arith .quo .i64 hj 2=hj / 2:=ve hA om om om;obtain⟨hk,hhk⟩:∃z,z=hj / 2:=⟨_,rfl⟩;rw[<-hhk]at e3;refine hA.aN Tryz.func92 x92.2 (hA.alike _ _ _ rfl) aq (zc ?_);rw[e1]
 (refine zq ?_;repeat ((first|rw[e2]|rw[e3]);refine zq ?_))
 refine GB hA cZ (L0:=L) (f:=A) (hi:=hi) a0 om (fun h' L' t' hp hh=>?_) (hk+1).toNat hk h L (Nat.le_refl _) om om t (.refl _ _ _) (fun k k0 k1 k2=>by unfold par at k2;omega)
 (refine zq ?_;repeat ((first|rw[e2]);refine zq ?_))
 refine Nc hA cZ (L0:=L) (f:=A) (B:=B) a0 bn (fun h2 L2 e kn t2 YQ hs=>?_) (hj+1).toNat hj h' L' (Nat.le_refl _) om om t' (by rw[show B=A+hi by omega];exact hp) ⟨by rw[show A+hj+1-A=hi by omega];exact hh,fun p q p0 pq q1=>om,fun p q p0 p1 q0 q1=>om⟩;refine zc ?_;exact hQ h2 L2 t2 YQ hs
theorem up3{h0:af}(aq:h0.low<=h0.next){b n c:Nat}{L:List LE}{A B j s:Int}(a0:0<=A)(bn:B<=n){Q:Exit->SS->Prop}
  (hQ:∀h' i,s<=i->bq h0 h' b n L->Part gD L A B i j->(i<=j->gD (gt L A) (gt L i))->Q (.exit 0) ⟨[(0,.slice (some ⟨b,0,none⟩) n c),(1,.int .i64 A),(4,.func (.func 51) #[] #[]),(12,.int .i64 i),(13,.int .i64 j)],32,[],h'⟩) :
  ∀(m:Nat) (i:Int) (h:af),(j+1-i).toNat<=m->s<=i->bq h0 h b n L->Part gD L A B i j->
   head 98 3 16 ⟨[(0,.slice (some ⟨b,0,none⟩) n c),(1,.int .i64 A),(4,.func (.func 51) #[] #[]),(12,.int .i64 i),(13,.int .i64 j)],16,[],h⟩ Q:=by
 intro m
 induction m with
 |zero=>
  intro i h hm hs t hp;refine hA.ar Tryz.func98 lI (zc ?_);refine br (i<=j) (by rw[jA hA]) (fun q=>om) (fun q=>?_)<;>refine zc ?_;exact hQ _ i hs (t.more (au hA _ _)) hp (fun w=>absurd w q)
 |succ m ih=>
  intro i h hm hs t hp;have gn:=t.gn;have p1:=hp.i0;have p2:=hp.j1;refine hA.ar Tryz.func98 lI (zc ?_);refine br (i<=j) (by rw[jA hA]) (fun ci=>?_) (fun q=>?_)<;>refine zc ?_
  rotate_left
  ·exact hQ _ i hs (t.more (au hA _ _)) hp (fun w=>absurd w q)
  obtain⟨h2,lO⟩:∃z,z=aG h 16:=⟨_,rfl⟩;have x2:Ext h h2:=by rw[lO];exact au hA _ _
  have t2:=t.more x2;obtain⟨Gy,Gz,GA,b2,g2,f2,r2⟩:=t2.read (i:=i) om om;obtain⟨rZ,r8,se,Ah,zL,tK,qU⟩:=t2.read (i:=A) om om;have q2:=aD hA r2;have EP:=aD hA qU;rw[<-lO];have e1:arith .add .i64 i 1=i+1:=aF hA om om;refine zq ?_;refine fx hA (aB hA h2) (dC hA f2) (dC hA tK) (fun u vJ hu x2a=>⟨_,rfl,?_⟩);have oN:=dF hA aq t2 x2a;refine zc ?_;generalize az h2 vJ=oO at *;refine br (u<0) (by rw[aA hA]) (fun cu=>?_) (fun cu=>?_)<;>refine zc ?_
  ·rw[hu]at cu
   rw[e1];exact ih (i+1) oO om om oN (hp.left ci (LL.le_of_lt (cO.1 cu)))
  ·rw[hu]at cu
   exact hQ oO i hs oN hp (fun _=>LL.not_lt.1 (fun w=>cu (cO.2 w)))
theorem Ws{h0:af}(aq:h0.low<=h0.next){b n c:Nat}{L:List LE}{A B i s:Int}(a0:0<=A)(bn:B<=n){Q:Exit->SS->Prop}
  (hQ:∀h' j,j<=s->bq h0 h' b n L->Part gD L A B i j->(i<=j->gD (gt L j) (gt L A)/\¬gD (gt L A) (gt L j))->Q (.exit 2) ⟨[(0,.slice (some ⟨b,0,none⟩) n c),(1,.int .i64 A),(4,.func (.func 51) #[] #[]),(12,.int .i64 i),(13,.int .i64 j)],49,[],h'⟩) :
  ∀(m:Nat) (j:Int) (h:af),(j+1-i).toNat<=m->j<=s->bq h0 h b n L->Part gD L A B i j->
   head 98 5 32 ⟨[(0,.slice (some ⟨b,0,none⟩) n c),(1,.int .i64 A),(4,.func (.func 51) #[] #[]),(12,.int .i64 i),(13,.int .i64 j)],32,[],h⟩ Q:=by
 intro m
 induction m with
 |zero=>
  intro j h hm hs t hp;refine hA.ar Tryz.func98 lI (zc ?_);refine br (i<=j) (by rw[jA hA]) (fun q=>om) (fun q=>?_)<;>refine zc ?_;exact hQ _ j hs (t.more (au hA _ _)) hp (fun w=>absurd w q)
 |succ m ih=>
  intro j h hm hs t hp;have gn:=t.gn;have p1:=hp.i0;have p2:=hp.j1;refine hA.ar Tryz.func98 lI (zc ?_);refine br (i<=j) (by rw[jA hA]) (fun ci=>?_) (fun q=>?_)<;>refine zc ?_
  rotate_left
  ·exact hQ _ j hs (t.more (au hA _ _)) hp (fun w=>absurd w q)
  obtain⟨h2,lO⟩:∃z,z=aG h 17:=⟨_,rfl⟩;have x2:Ext h h2:=by rw[lO];exact au hA _ _
  have t2:=t.more x2;obtain⟨Gy,Gz,GA,b2,g2,f2,r2⟩:=t2.read (i:=j) om om;obtain⟨rZ,r8,se,Ah,zL,tK,qU⟩:=t2.read (i:=A) om om;have q2:=aD hA r2;have EP:=aD hA qU;rw[<-lO];have e1:arith .sub .i64 j 1=j-1:=bP hA om om;refine zq ?_;refine fx hA (aB hA h2) (dC hA f2) (dC hA tK) (fun u vJ hu x2a=>⟨_,rfl,?_⟩);have oN:=dF hA aq t2 x2a;refine zc ?_;generalize az h2 vJ=oO at *;refine br (0<=u) (by rw[bZ hA,aA hA];by_cases z:u<0<;>simp[z]<;>omega) (fun cu=>?_) (fun cu=>?_)<;>refine zc ?_
  ·rw[hu]at cu
   rw[e1];exact ih (j-1) oO om om oN (hp.right ci (LL.not_lt.1 (fun w=>by have:=cO.2 w;omega)))
  ·rw[hu]at cu
   have lt:=cO.1 (show fP (gt L j).q (gt L A).q<0 by omega);exact hQ oO j hs oN hp (fun _=>⟨LL.le_of_lt lt,LL.not_le.2 lt⟩)
theorem Wt{h0:af}(aq:h0.low<=h0.next){b n c:Nat}{L:List LE}{A B j s:Int}(a0:0<=A)(bn:B<=n){Q:Exit->SS->Prop}
  (hQ:∀h' i,s<=i->bq h0 h' b n L->Part gD L A B i j->(i<=j->gD (gt L A) (gt L i))->Q (.exit 6) ⟨[(0,.slice (some ⟨b,0,none⟩) n c),(1,.int .i64 A),(4,.func (.func 51) #[] #[]),(12,.int .i64 i),(13,.int .i64 j)],81,[],h'⟩) :
  ∀(m:Nat) (i:Int) (h:af),(j+1-i).toNat<=m->s<=i->bq h0 h b n L->Part gD L A B i j->
   head 98 13 65 ⟨[(0,.slice (some ⟨b,0,none⟩) n c),(1,.int .i64 A),(4,.func (.func 51) #[] #[]),(12,.int .i64 i),(13,.int .i64 j)],65,[],h⟩ Q:=by
 intro m
 induction m with
 |zero=>
  intro i h hm hs t hp;refine hA.ar Tryz.func98 lI (zc ?_);refine br (i<=j) (by rw[jA hA]) (fun q=>om) (fun q=>?_)<;>refine zc ?_;exact hQ _ i hs (t.more (au hA _ _)) hp (fun w=>absurd w q)
 |succ m ih=>
  intro i h hm hs t hp;have gn:=t.gn;have p1:=hp.i0;have p2:=hp.j1;refine hA.ar Tryz.func98 lI (zc ?_);refine br (i<=j) (by rw[jA hA]) (fun ci=>?_) (fun q=>?_)<;>refine zc ?_
  rotate_left
  ·exact hQ _ i hs (t.more (au hA _ _)) hp (fun w=>absurd w q)
  obtain⟨h2,lO⟩:∃z,z=aG h 16:=⟨_,rfl⟩;have x2:Ext h h2:=by rw[lO];exact au hA _ _
  have t2:=t.more x2;obtain⟨Gy,Gz,GA,b2,g2,f2,r2⟩:=t2.read (i:=i) om om;obtain⟨rZ,r8,se,Ah,zL,tK,qU⟩:=t2.read (i:=A) om om;have q2:=aD hA r2;have EP:=aD hA qU;rw[<-lO];have e1:arith .add .i64 i 1=i+1:=aF hA om om;refine zq ?_;refine fx hA (aB hA h2) (dC hA f2) (dC hA tK) (fun u vJ hu x2a=>⟨_,rfl,?_⟩);have oN:=dF hA aq t2 x2a;refine zc ?_;generalize az h2 vJ=oO at *;refine br (u<0) (by rw[aA hA]) (fun cu=>?_) (fun cu=>?_)<;>refine zc ?_
  ·rw[hu]at cu
   rw[e1];exact ih (i+1) oO om om oN (hp.left ci (LL.le_of_lt (cO.1 cu)))
  ·rw[hu]at cu
   exact hQ oO i hs oN hp (fun _=>LL.not_lt.1 (fun w=>cu (cO.2 w)))
theorem Nd{h0:af}(aq:h0.low<=h0.next){b n c:Nat}{L:List LE}{A B i s:Int}(a0:0<=A)(bn:B<=n){Q:Exit->SS->Prop}
  (hQ:∀h' j,j<=s->bq h0 h' b n L->Part gD L A B i j->(i<=j->gD (gt L j) (gt L A)/\¬gD (gt L A) (gt L j))->Q (.exit 8) ⟨[(0,.slice (some ⟨b,0,none⟩) n c),(1,.int .i64 A),(4,.func (.func 51) #[] #[]),(12,.int .i64 i),(13,.int .i64 j)],98,[],h'⟩) :
  ∀(m:Nat) (j:Int) (h:af),(j+1-i).toNat<=m->j<=s->bq h0 h b n L->Part gD L A B i j->
   head 98 15 81 ⟨[(0,.slice (some ⟨b,0,none⟩) n c),(1,.int .i64 A),(4,.func (.func 51) #[] #[]),(12,.int .i64 i),(13,.int .i64 j)],81,[],h⟩ Q:=by
 intro m
 induction m with
 |zero=>
  intro j h hm hs t hp;refine hA.ar Tryz.func98 lI (zc ?_);refine br (i<=j) (by rw[jA hA]) (fun q=>om) (fun q=>?_)<;>refine zc ?_;exact hQ _ j hs (t.more (au hA _ _)) hp (fun w=>absurd w q)
 |succ m ih=>
  intro j h hm hs t hp;have gn:=t.gn;have p1:=hp.i0;have p2:=hp.j1;refine hA.ar Tryz.func98 lI (zc ?_);refine br (i<=j) (by rw[jA hA]) (fun ci=>?_) (fun q=>?_)<;>refine zc ?_
  rotate_left
  ·exact hQ _ j hs (t.more (au hA _ _)) hp (fun w=>absurd w q)
  obtain⟨h2,lO⟩:∃z,z=aG h 17:=⟨_,rfl⟩;have x2:Ext h h2:=by rw[lO];exact au hA _ _
  have t2:=t.more x2;obtain⟨Gy,Gz,GA,b2,g2,f2,r2⟩:=t2.read (i:=j) om om;obtain⟨rZ,r8,se,Ah,zL,tK,qU⟩:=t2.read (i:=A) om om;have q2:=aD hA r2;have EP:=aD hA qU;rw[<-lO];have e1:arith .sub .i64 j 1=j-1:=bP hA om om;refine zq ?_;refine fx hA (aB hA h2) (dC hA f2) (dC hA tK) (fun u vJ hu x2a=>⟨_,rfl,?_⟩);have oN:=dF hA aq t2 x2a;refine zc ?_;generalize az h2 vJ=oO at *;refine br (0<=u) (by rw[bZ hA,aA hA];by_cases z:u<0<;>simp[z]<;>omega) (fun cu=>?_) (fun cu=>?_)<;>refine zc ?_
  ·rw[hu]at cu
   rw[e1];exact ih (j-1) oO om om oN (hp.right ci (LL.not_lt.1 (fun w=>by have:=cO.2 w;omega)))
  ·rw[hu]at cu
   have lt:=cO.1 (show fP (gt L j).q (gt L A).q<0 by omega);exact hQ oO j hs oN hp (fun _=>⟨LL.le_of_lt lt,LL.not_le.2 lt⟩)
theorem JL{h0:af}(aq:h0.low<=h0.next){b n c:Nat}{L0:List LE}{A B:Int}(a0:0<=A)(bn:B<=n){Q:Exit->SS->Prop}
  (hQ:∀h' L i j,bq h0 h' b n L->aJ A B L0 L->Part gD L A B i j->j<i->Q (.exit 4) ⟨[(0,.slice (some ⟨b,0,none⟩) n c),(1,.int .i64 A),(13,.int .i64 j)],98,[],h'⟩) :
  ∀(m:Nat) (i j:Int) (h:af) (L:List LE),(j+1-i).toNat<=m->bq h0 h b n L->aJ A B L0 L->Part gD L A B i j->
   head 98 1013 65 ⟨[(0,.slice (some ⟨b,0,none⟩) n c),(1,.int .i64 A),(4,.func (.func 51) #[] #[]),(12,.int .i64 i),(13,.int .i64 j)],65,[],h⟩ Q:=by
 intro m
 induction m with
 |zero=>
  intro i j h L hm t hp hI;refine hA.ar Tryz.func98 lI (zc ?_);refine Wt hA aq a0 bn (s:=i) (fun h1 i1 s1 t1 Td w1=>?_) (j+1-i).toNat i h (Nat.le_refl _) (Int.le_refl _) t hI;refine zc ?_;refine Nd hA aq a0 bn (s:=j) (fun h2 j2 s2 t2 JM w2=>?_) (j+1-i1).toNat j h1 (Nat.le_refl _) (Int.le_refl _) t1 Td;refine zc ?_;refine br (j2<i1) (by rw[dc hA]) (fun _=>?_) (fun q=>om)<;>refine zc ?_;exact hQ h2 L i1 j2 t2 hp JM om
 |succ m ih=>
  intro i j h L hm t hp hI;have gn:=t.gn;refine hA.ar Tryz.func98 lI (zc ?_);refine Wt hA aq a0 bn (s:=i) (fun h1 i1 s1 t1 Td w1=>?_) (j+1-i).toNat i h (Nat.le_refl _) (Int.le_refl _) t hI;refine zc ?_;refine Nd hA aq a0 bn (s:=j) (fun h2 j2 s2 t2 JM w2=>?_) (j+1-i1).toNat j h1 (Nat.le_refl _) (Int.le_refl _) t1 Td;refine zc ?_;refine br (j2<i1) (by rw[dc hA]) (fun q=>?_) (fun ci=>?_)<;>refine zc ?_
  ·exact hQ h2 L i1 j2 t2 hp JM q
  have k1:=JM.i0;have k2:=JM.j1;obtain⟨v1,v2⟩:=w2 om;have v3:=w1 om;have ne:i1≠j2:=fun e=>v2 (by rw[<-e];exact v3)
  have e1:arith .add .i64 i1 1=i1+1:=aF hA om om;have e2:arith .sub .i64 j2 1=j2-1:=bP hA om om;obtain⟨i2,DA⟩:∃z,z=i1+1:=⟨_,rfl⟩;obtain⟨j3,Te⟩:∃z,z=j2-1:=⟨_,rfl⟩;rw[<-DA]at e1;rw[<-Te]at e2;obtain⟨h5,sf⟩:∃z,z=aG h2 16:=⟨_,rfl⟩;have x5:Ext h2 h5:=by rw[sf];exact au hA _ _
  have t5:=t2.more x5;obtain⟨PM,PN,PO,b5,g5,f5,r5⟩:=t5.read (i:=i1) om om;obtain⟨B7,B8,Cb,PQ,Cn,N5,Cc⟩:=t5.read (i:=j2) om om;have q5:=aD hA r5;have Kx:=aD hA Cc;rw[<-sf];obtain⟨Rd,Co,p5,Re,Cp⟩:=cY hA t5 (i:=i1) (j:=j2) om om om om g5 Cn
  (refine zq ?_;repeat ((first|rw[e1]|rw[e2]);refine zq ?_))
  refine ih i2 j3 Co _ om Cp (hp.trans (aJ.swap L a0 (by have:=t.len;omega) om om om om)) ?_;rw[DA,Te];exact JM.swap a0 (by have:=t.len;omega) om v3 v1
theorem PR{h0 h:af}(aq:h0.low<=h0.next){b n c:Nat}{L:List LE}{A B p:Int}(a0:0<=A)(bn:B<=n)(pa:A<=p)(pb:p<B)(t:bq h0 h b n L){Q:Value->af->Prop}
  (hQ:∀h' L' m (r:Bool),bq h0 h' b n L'->aJ A B L L'->A<=m->m<B->(∀p:Int,A<=p->p<m->gD (gt L' p) (gt L' m))->(∀p:Int,m<p->p<B->gD (gt L' m) (gt L' p))->Q (.tuple #[.int .i64 m,.bool r]) h') :
  call 98 [.slice (some ⟨b,0,none⟩) n c,.int .i64 A,.int .i64 B,.int .i64 p,.func (.func 51) #[] #[]] h Q:=by
 have cZ:=aq
 replace aq:=t.ext.aC aq
 have gn:=t.gn;have e1:arith .add .i64 A 1=A+1:=aF hA om om;have e2:arith .sub .i64 B 1=B-1:=bP hA om om;obtain⟨A1,T4⟩:∃z,z=A+1:=⟨_,rfl⟩;obtain⟨B1,XL⟩:∃z,z=B-1:=⟨_,rfl⟩;rw[<-T4]at e1;rw[<-XL]at e2;refine hA.aN Tryz.func98 lI (hA.alike _ _ _ rfl) aq (zc ?_);obtain⟨h2,lO⟩:∃z,z=aG h 16:=⟨_,rfl⟩;have x2:Ext h h2:=by rw[lO];exact au hA _ _
 have t2:=t.more x2;obtain⟨Gy,Gz,GA,b2,g2,f2,r2⟩:=t2.read (i:=A) om om;obtain⟨rZ,r8,se,Ah,zL,tK,qU⟩:=t2.read (i:=p) om om;have q2:=aD hA r2;have EP:=aD hA qU;rw[<-lO];obtain⟨h2c,XK,p2,Wq,Wr⟩:=cY hA t2 (i:=A) (j:=p) om om om om g2 zL
 (refine zq ?_;repeat ((first|rw[e1]|rw[e2]);refine zq ?_))
 have s2:=aJ.swap (a:=A) (b:=B) L (i:=A) (j:=p) a0 (by have:=t.len;omega) om om pa pb;generalize dB L A p=L2 at *;have hI:Part gD L2 A B A1 B1:=by rw[T4,XL];exact .start L2 om
 refine up3 hA cZ a0 bn (s:=A1) (fun h3 i3 s3 t3 hI3 w3=>?_) (B1+1-A1).toNat A1 XK (Nat.le_refl _) (Int.le_refl _) Wr hI;refine zc ?_;refine Ws hA cZ a0 bn (s:=B1) (fun h4 j4 s4 t4 Wu w4=>?_) (B1+1-i3).toNat B1 h3 (Nat.le_refl _) (Int.le_refl _) t3 hI3;refine zc ?_;have fin:∀(hh:af) (L':List LE) (i j:Int),bq h0 hh b n L'->aJ A B L L'->Part gD L' A B i j->j<i->∀zh (r:Bool),bq h0 zh b n (dB L' j A)->Q (.tuple #[.int .i64 j,.bool r]) zh:=fun hh L' i j td hp hI c zh r td'=>by
  have k1:=hI.i0;have k2:=hI.j1;have k3:=hI.ij;obtain⟨f1,f2⟩:=hI.done a0 (by have:=td.len;omega) c;exact hQ zh _ j r td' (hp.trans (aJ.swap L' a0 (by have:=td.len;omega) om om om om)) om om f1 f2
 have k1:=Wu.i0;have k2:=Wu.j1;have k3:=Wu.ij;refine br (j4<i3) (by rw[dc hA]) (fun q=>?_) (fun ci=>?_)<;>refine zc ?_
 ·have Tf:=fin h4 L2 i3 j4 t4 s2 Wu q
  have aag:=cZ;clear aq;have aq:=cZ;obtain⟨h6,XM⟩:∃z,z=aG h4 16:=⟨_,rfl⟩;have x6:Ext h4 h6:=by rw[XM];exact au hA _ _
  have t6:=t4.more x6;obtain⟨a6x,a6y,a6z,b6,g6,f6,r6⟩:=t6.read (i:=j4) om om;obtain⟨a6'x,a6'y,a6'z,b6',g6',f6',r6'⟩:=t6.read (i:=A) om om;have q6:=aD hA r6;have q6':=aD hA r6';rw[<-XM];obtain⟨h6c,h6d,p6,p6',t6d⟩:=cY hA t6 (i:=j4) (j:=A) om om om om g6 g6';refine zq ?_;exact Tf _ _ t6d
 obtain⟨v1,v2⟩:=w4 om;have v3:=w3 om;have ne:i3≠j4:=fun e=>v2 (by rw[<-e];exact v3)
 have e3:arith .add .i64 i3 1=i3+1:=aF hA om om;have e4:arith .sub .i64 j4 1=j4-1:=bP hA om om;obtain⟨i5,hi5⟩:∃z,z=i3+1:=⟨_,rfl⟩;obtain⟨j5,hj5⟩:∃z,z=j4-1:=⟨_,rfl⟩;rw[<-hi5]at e3;rw[<-hj5]at e4;obtain⟨h7,hh7⟩:∃z,z=aG h4 16:=⟨_,rfl⟩;have x7:Ext h4 h7:=by rw[hh7];exact au hA _ _
 have t7:=t4.more x7;obtain⟨a7x,a7y,a7z,b7,g7,f7,r7⟩:=t7.read (i:=i3) om om;obtain⟨a7'x,a7'y,a7'z,b7',g7',f7',r7'⟩:=t7.read (i:=j4) om om;have q7:=aD hA r7;have q7':=aD hA r7';rw[<-hh7];obtain⟨h7c,h7d,p7,p7',t7d⟩:=cY hA t7 (i:=i3) (j:=j4) om om om om g7 g7'
 (refine zq ?_;repeat ((first|rw[e3]|rw[e4]);refine zq ?_))
 have hI7:=Wu.swap a0 (by have:=t4.len;omega) om v3 v1;rw[<-hi5,<-hj5]at hI7;refine JL hA cZ (L0:=L) a0 bn (fun h8 L8 i8 j8 t8 hp8 XN c8=>?_) (j5+1-i5).toNat i5 j5 h7d _ (Nat.le_refl _) t7d (s2.trans (aJ.swap L2 a0 (by have:=t4.len;omega) om om om om)) hI7;have m1:=XN.i0;have m2:=XN.j1;have m3:=XN.ij;have Tf:=fin h8 L8 i8 j8 t8 hp8 XN c8;refine zc ?_;obtain⟨h9,iT⟩:∃z,z=aG h8 16:=⟨_,rfl⟩;have x9:Ext h8 h9:=by rw[iT];exact au hA _ _
 have t9:=t8.more x9;obtain⟨a9x,a9y,a9z,b9,g9,f9,r9⟩:=t9.read (i:=j8) om om;obtain⟨a9'x,a9'y,a9'z,b9',g9',f9',r9'⟩:=t9.read (i:=A) om om;have q9:=aD hA r9;have q9':=aD hA r9';rw[<-iT];obtain⟨h9c,h9d,p9,p9',t9d⟩:=cY hA t9 (i:=j8) (j:=A) om om om om g9 g9';refine zq ?_;exact Tf _ _ t9d
theorem Rf{h0:af}(aq:h0.low<=h0.next){b n c:Nat}{L:List LE}{A B j s:Int}(a0:0<=A)(bn:B<=n){Q:Exit->SS->Prop}
  (hQ:∀h' i,s<=i->bq h0 h' b n L->lM gD L A B i j->(i<=j->¬gD (gt L i) (gt L A))->Q (.exit 2) ⟨[(0,.slice (some ⟨b,0,none⟩) n c),(1,.int .i64 A),(4,.func (.func 51) #[] #[]),(11,.int .i64 i),(12,.int .i64 j)],33,[],h'⟩) :
  ∀(m:Nat) (i:Int) (h:af),(j+1-i).toNat<=m->s<=i->bq h0 h b n L->lM gD L A B i j->
   head 97 3 16 ⟨[(0,.slice (some ⟨b,0,none⟩) n c),(1,.int .i64 A),(4,.func (.func 51) #[] #[]),(11,.int .i64 i),(12,.int .i64 j)],16,[],h⟩ Q:=by
 intro m
 induction m with
 |zero=>
  intro i h hm hs t hp;refine hA.ar Tryz.func97 rN (zc ?_);refine br (i<=j) (by rw[jA hA]) (fun q=>om) (fun q=>?_)<;>refine zc ?_;exact hQ _ i hs (t.more (au hA _ _)) hp (fun w=>absurd w q)
 |succ m ih=>
  intro i h hm hs t hp;have gn:=t.gn;have p1:=hp.i0;have p2:=hp.j1;refine hA.ar Tryz.func97 rN (zc ?_);refine br (i<=j) (by rw[jA hA]) (fun ci=>?_) (fun q=>?_)<;>refine zc ?_
  rotate_left
  ·exact hQ _ i hs (t.more (au hA _ _)) hp (fun w=>absurd w q)
  obtain⟨h2,lO⟩:∃z,z=aG h 17:=⟨_,rfl⟩;have x2:Ext h h2:=by rw[lO];exact au hA _ _
  have t2:=t.more x2;obtain⟨Gy,Gz,GA,b2,g2,f2,r2⟩:=t2.read (i:=A) om om;obtain⟨rZ,r8,se,Ah,zL,tK,qU⟩:=t2.read (i:=i) om om;have q2:=aD hA r2;have EP:=aD hA qU;rw[<-lO];have e1:arith .add .i64 i 1=i+1:=aF hA om om;refine zq ?_;refine fx hA (aB hA h2) (dC hA f2) (dC hA tK) (fun u vJ hu x2a=>⟨_,rfl,?_⟩);have oN:=dF hA aq t2 x2a;refine zc ?_;generalize az h2 vJ=oO at *;refine br (0<=u) (by rw[bZ hA,aA hA];by_cases z:u<0<;>simp[z]<;>omega) (fun cu=>?_) (fun cu=>?_)<;>refine zc ?_
  ·rw[hu]at cu
   rw[e1];exact ih (i+1) oO om om oN (hp.left ci (LL.not_lt.1 (fun w=>by have:=cO.2 w;omega)))
  ·rw[hu]at cu
   exact hQ oO i hs oN hp (fun _=>LL.not_le.2 (cO.1 (show fP (gt L A).q (gt L i).q<0 by omega)))
theorem H6{h0:af}(aq:h0.low<=h0.next){b n c:Nat}{L:List LE}{A B i s:Int}(a0:0<=A)(bn:B<=n){Q:Exit->SS->Prop}
  (hQ:∀h' j,j<=s->bq h0 h' b n L->lM gD L A B i j->(i<=j->gD (gt L j) (gt L A))->Q (.exit 4) ⟨[(0,.slice (some ⟨b,0,none⟩) n c),(1,.int .i64 A),(4,.func (.func 51) #[] #[]),(11,.int .i64 i),(12,.int .i64 j)],49,[],h'⟩) :
  ∀(m:Nat) (j:Int) (h:af),(j+1-i).toNat<=m->j<=s->bq h0 h b n L->lM gD L A B i j->
   head 97 5 33 ⟨[(0,.slice (some ⟨b,0,none⟩) n c),(1,.int .i64 A),(4,.func (.func 51) #[] #[]),(11,.int .i64 i),(12,.int .i64 j)],33,[],h⟩ Q:=by
 intro m
 induction m with
 |zero=>
  intro j h hm hs t hp;refine hA.ar Tryz.func97 rN (zc ?_);refine br (i<=j) (by rw[jA hA]) (fun q=>om) (fun q=>?_)<;>refine zc ?_;exact hQ _ j hs (t.more (au hA _ _)) hp (fun w=>absurd w q)
 |succ m ih=>
  intro j h hm hs t hp;have gn:=t.gn;have p1:=hp.i0;have p2:=hp.j1;refine hA.ar Tryz.func97 rN (zc ?_);refine br (i<=j) (by rw[jA hA]) (fun ci=>?_) (fun q=>?_)<;>refine zc ?_
  rotate_left
  ·exact hQ _ j hs (t.more (au hA _ _)) hp (fun w=>absurd w q)
  obtain⟨h2,lO⟩:∃z,z=aG h 16:=⟨_,rfl⟩;have x2:Ext h h2:=by rw[lO];exact au hA _ _
  have t2:=t.more x2;obtain⟨Gy,Gz,GA,b2,g2,f2,r2⟩:=t2.read (i:=A) om om;obtain⟨rZ,r8,se,Ah,zL,tK,qU⟩:=t2.read (i:=j) om om;have q2:=aD hA r2;have EP:=aD hA qU;rw[<-lO];have e1:arith .sub .i64 j 1=j-1:=bP hA om om;refine zq ?_;refine fx hA (aB hA h2) (dC hA f2) (dC hA tK) (fun u vJ hu x2a=>⟨_,rfl,?_⟩);have oN:=dF hA aq t2 x2a;refine zc ?_;generalize az h2 vJ=oO at *;refine br (u<0) (by rw[aA hA]) (fun cu=>?_) (fun cu=>?_)<;>refine zc ?_
  ·rw[e1]
   exact ih (j-1) oO om om oN (hp.right ci)
  ·rw[hu]at cu
   exact hQ oO j hs oN hp (fun _=>LL.not_lt.1 (fun w=>cu (cO.2 w)))
theorem PS{h0:af}(aq:h0.low<=h0.next){b n c:Nat}{L0:List LE}{A B:Int}(a0:0<=A)(bn:B<=n){v:LE}{Q:Exit->SS->Prop}
  (hQ:∀h' L i e,bq h0 h' b n L->aJ A B L0 L->A<i->i<=B->(∀p:Int,A<=p->p<i->gD (gt L p) v)->Q (.exit 0) ⟨(11,.int .i64 i) :: e,49,[],h'⟩) :
  ∀(m:Nat) (i j:Int) (h:af) (L:List LE),(j+1-i).toNat<=m->bq h0 h b n L->aJ A B L0 L->lM gD L A B i j->gt L A=v->
   head 97 1003 16 ⟨[(0,.slice (some ⟨b,0,none⟩) n c),(1,.int .i64 A),(4,.func (.func 51) #[] #[]),(11,.int .i64 i),(12,.int .i64 j)],16,[],h⟩ Q:=by
 intro m;have fin:∀(h:af) (L:List LE) (i j:Int),bq h0 h b n L->aJ A B L0 L->lM gD L A B i j->gt L A=v->j<i->Q (.exit 0) ⟨[(11,.int .i64 i)],49,[],h⟩:=fun h L i j t hp hI hv c=>by
  have k1:=hI.i0;have k2:=hI.j1;have k3:=hI.ij;refine hQ h L i _ t hp k1 om (fun p p0 p1=>?_);by_cases e:p=A
  ·rw[e,hv];exact dN.refl _
  ·rw[<-hv];exact hI.low p om p1
 induction m with
 |zero=>
  intro i j h L hm t hp hI hv;refine hA.ar Tryz.func97 rN (zc ?_);refine Rf hA aq a0 bn (s:=i) (fun h1 i1 s1 t1 Td w1=>?_) (j+1-i).toNat i h (Nat.le_refl _) (Int.le_refl _) t hI;refine zc ?_;refine H6 hA aq a0 bn (s:=j) (fun h2 j2 s2 t2 JM w2=>?_) (j+1-i1).toNat j h1 (Nat.le_refl _) (Int.le_refl _) t1 Td;refine zc ?_;refine br (j2<i1) (by rw[dc hA]) (fun _=>?_) (fun q=>om)<;>refine zc ?_;exact fin h2 L i1 j2 t2 hp JM hv om
 |succ m ih=>
  intro i j h L hm t hp hI hv;have gn:=t.gn;refine hA.ar Tryz.func97 rN (zc ?_);refine Rf hA aq a0 bn (s:=i) (fun h1 i1 s1 t1 Td w1=>?_) (j+1-i).toNat i h (Nat.le_refl _) (Int.le_refl _) t hI;refine zc ?_;refine H6 hA aq a0 bn (s:=j) (fun h2 j2 s2 t2 JM w2=>?_) (j+1-i1).toNat j h1 (Nat.le_refl _) (Int.le_refl _) t1 Td;refine zc ?_;refine br (j2<i1) (by rw[dc hA]) (fun q=>?_) (fun ci=>?_)<;>refine zc ?_
  ·exact fin h2 L i1 j2 t2 hp JM hv q
  have k1:=JM.i0;have k2:=JM.j1;have v2:=w2 om;have v3:=w1 om;have ne:i1≠j2:=fun e=>v3 (by rw[e];exact v2)
  have e1:arith .add .i64 i1 1=i1+1:=aF hA om om;have e2:arith .sub .i64 j2 1=j2-1:=bP hA om om;obtain⟨i2,DA⟩:∃z,z=i1+1:=⟨_,rfl⟩;obtain⟨j3,Te⟩:∃z,z=j2-1:=⟨_,rfl⟩;rw[<-DA]at e1;rw[<-Te]at e2;obtain⟨h5,sf⟩:∃z,z=aG h2 16:=⟨_,rfl⟩;have x5:Ext h2 h5:=by rw[sf];exact au hA _ _
  have t5:=t2.more x5;obtain⟨PM,PN,PO,b5,g5,f5,r5⟩:=t5.read (i:=i1) om om;obtain⟨B7,B8,Cb,PQ,Cn,N5,Cc⟩:=t5.read (i:=j2) om om;have q5:=aD hA r5;have Kx:=aD hA Cc;rw[<-sf];obtain⟨Rd,Co,p5,Re,Cp⟩:=cY hA t5 (i:=i1) (j:=j2) om om om om g5 Cn
  (refine zq ?_;repeat ((first|rw[e1]|rw[e2]);refine zq ?_))
  refine ih i2 j3 Co _ om Cp (hp.trans (aJ.swap L a0 (by have:=t.len;omega) om om om om)) ?_ ?_
  ·rw[DA,Te]
   exact JM.swap a0 (by have:=t.len;omega) om v2
  ·rw[jw L om (by have:=t.len;omega) om (by have:=t.len;omega) a0,if_neg om,if_neg om,hv]
theorem Nf{h0 h:af}(aq:h0.low<=h0.next){b n c:Nat}{L:List LE}{A B p:Int}(a0:0<=A)(bn:B<=n)(pa:A<=p)(pb:p<B)(t:bq h0 h b n L){Q:Value->af->Prop}
  (hQ:∀h' L' m,bq h0 h' b n L'->aJ A B L L'->A<m->m<=B->(∀k:Int,A<=k->k<m->gD (gt L' k) (gt L p))->Q (.int .i64 m) h') :
  call 97 [.slice (some ⟨b,0,none⟩) n c,.int .i64 A,.int .i64 B,.int .i64 p,.func (.func 51) #[] #[]] h Q:=by
 have cZ:=aq
 replace aq:=t.ext.aC aq
 have gn:=t.gn;have e1:arith .add .i64 A 1=A+1:=aF hA om om;have e2:arith .sub .i64 B 1=B-1:=bP hA om om;obtain⟨A1,T4⟩:∃z,z=A+1:=⟨_,rfl⟩;obtain⟨B1,XL⟩:∃z,z=B-1:=⟨_,rfl⟩;rw[<-T4]at e1;rw[<-XL]at e2;refine hA.aN Tryz.func97 rN (hA.alike _ _ _ rfl) aq (zc ?_);obtain⟨h2,lO⟩:∃z,z=aG h 16:=⟨_,rfl⟩;have x2:Ext h h2:=by rw[lO];exact au hA _ _
 have t2:=t.more x2;obtain⟨Gy,Gz,GA,b2,g2,f2,r2⟩:=t2.read (i:=A) om om;obtain⟨rZ,r8,se,Ah,zL,tK,qU⟩:=t2.read (i:=p) om om;have q2:=aD hA r2;have EP:=aD hA qU;rw[<-lO];obtain⟨h2c,XK,p2,Wq,Wr⟩:=cY hA t2 (i:=A) (j:=p) om om om om g2 zL
 (refine zq ?_;repeat ((first|rw[e1]|rw[e2]);refine zq ?_))
 have s2:=aJ.swap (a:=A) (b:=B) L (i:=A) (j:=p) a0 (by have:=t.len;omega) om om pa pb;have hv:gt (dB L A p) A=gt L p:=by
  rw[jw L a0 (by have:=t.len;omega) om (by have:=t.len;omega) a0];by_cases e:A=p
  ·rw[if_pos e,e]
  ·rw[if_neg e,if_pos rfl]
 refine PS hA cZ (L0:=L) a0 bn (v:=gt L p) (fun h' L' i e t' hp i0 i1 hl=>?_) (B1+1-A1).toNat A1 B1 XK _ (Nat.le_refl _) Wr s2 ⟨om,om,om,fun p p0 p1=>om⟩ hv;refine zc ?_;exact hQ h' L' i t' hp i0 i1 hl
theorem PT{h0 h h':af}(hl:h.low<=h.next){b sb:Nat}{v:Value}(t:wu h0 h b sb v)(x:Ext (fresh h) h'):wu h0 (az h h') b sb v:=t.more (cI hA hl (.refl h) x)
theorem uE{h0 h:af}(aq:h0.low<=h0.next){b n c sb:Nat}{L:List LE}{i j w:Int}(i0:0<=i)(i1:i<n)(j0:0<=j)(j1:j<n)(t:bq h0 h b n L)(s:wu h0 h b sb (.int .i64 w)){Q:Value->af->Prop}
  (hQ:∀h' r q w',bq h0 h' b n L->wu h0 h' b sb (.int .i64 w')->((r=i/\q=j)\/(r=j/\q=i))->Q (.tuple #[.int .i64 r,.int .i64 q]) h'):call 117 [.slice (some ⟨b,0,none⟩) n c,.int .i64 i,.int .i64 j,.pointer (some ⟨sb,0,none⟩),.func (.func 51) #[] #[]] h Q:=by
 have cZ:=aq
 replace aq:=t.ext.aC aq
 have gn:=t.gn;refine hA.aN Tryz.func117 x117.2 (hA.alike _ _ _ rfl) aq (zc ?_);obtain⟨h2,lO⟩:∃z,z=aG h 11:=⟨_,rfl⟩;have x2:Ext h h2:=by rw[lO];exact au hA _ _
 have t2:=t.more x2;obtain⟨Gy,Gz,GA,b2,g2,f2,r2⟩:=t2.read (i:=j) om om;obtain⟨rZ,r8,se,Ah,zL,tK,qU⟩:=t2.read (i:=i) om om;have q2:=aD hA r2;have EP:=aD hA qU;rw[<-lO];have s2:=s.more x2;have l2:=t2.ext.aC cZ;have aq:=cZ;refine zq ?_;refine fx hA (aB hA h2) (dC hA f2) (dC hA tK) (fun u vJ hu x2a=>⟨_,rfl,?_⟩);have oN:=dF hA aq t2 x2a;refine zc ?_;have ZV:=PT hA l2 s2 x2a;generalize az h2 vJ=oO at *;refine br (u<0) (by rw[aA hA]) (fun cu=>?_) (fun cu=>?_)<;>refine zc ?_
 rotate_left
 ·exact hQ oO i j w oN ZV (.inl ⟨rfl,rfl⟩)
 have r5:rd oO sb 0 1 [.int .i64 w]:=iS hA (ZV.own.aM (o:=0) (n:=1) (by simp));obtain⟨h6,p6,s6,t6⟩:=ZV.put oN (.int .i64 (arith .add .i64 w 1));have p7:wr oO sb 0 [.int .i64 (arith .add .i64 w 1)] h6:=kF hA p6;refine zq ?_;exact hQ h6 j i _ t6 s6 (.inr ⟨rfl,rfl⟩)
theorem uF{h0 h:af}(aq:h0.low<=h0.next){b n c sb:Nat}{L:List LE}{i j k w:Int}(i0:0<=i)(i1:i<n)(j0:0<=j)(j1:j<n)(k0:0<=k)(k1:k<n)(t:bq h0 h b n L)(s:wu h0 h b sb (.int .i64 w)){Q:Value->af->Prop}
  (hQ:∀h' r w',bq h0 h' b n L->wu h0 h' b sb (.int .i64 w')->(r=i\/r=j\/r=k)->Q (.int .i64 r) h'):call 114 [.slice (some ⟨b,0,none⟩) n c,.int .i64 i,.int .i64 j,.int .i64 k,.pointer (some ⟨sb,0,none⟩),.func (.func 51) #[] #[]] h Q:=by
 have cZ:=aq
 replace aq:=t.ext.aC aq
 refine hA.aN Tryz.func114 x114.2 (hA.alike _ _ _ rfl) aq (zc ?_);refine uE hA cZ i0 i1 j0 j1 t s (fun h1 a1 b1 w1 t1 s1 q1=>⟨_,_,rfl,?_⟩);refine zc ?_;refine uE hA cZ (i:=b1) (j:=k) om om k0 k1 t1 s1 (fun h2 a2 b2 w2 t2 s2 q2=>⟨_,_,rfl,?_⟩);refine zc ?_;refine uE hA cZ (i:=a1) (j:=a2) om om om om t2 s2 (fun h3 a3 b3 w3 t3 s3 q3=>⟨_,_,rfl,?_⟩);refine zc ?_;exact hQ h3 b3 w3 t3 s3 om
theorem qe{h0 h:af}(aq:h0.low<=h0.next){b n c sb:Nat}{L:List LE}{i w:Int}(i0:0<i)(i1:i+1<n)(t:bq h0 h b n L)(s:wu h0 h b sb (.int .i64 w)){Q:Value->af->Prop}
  (hQ:∀h' r w',bq h0 h' b n L->wu h0 h' b sb (.int .i64 w')->(i-1<=r/\r<=i+1)->Q (.int .i64 r) h'):call 113 [.slice (some ⟨b,0,none⟩) n c,.int .i64 i,.pointer (some ⟨sb,0,none⟩),.func (.func 51) #[] #[]] h Q:=by
 have cZ:=aq
 replace aq:=t.ext.aC aq
 have gn:=t.gn;refine hA.aN Tryz.func113 x113.2 (hA.alike _ _ _ rfl) aq (zc ?_);rw[bP hA om om,aF hA om om];refine uF hA cZ om om om om om om t s (fun h1 r w1 t1 s1 q1=>⟨_,rfl,?_⟩);refine zc ?_;exact hQ h1 r w1 t1 s1 om
theorem Ng{h0 h:af}(aq:h0.low<=h0.next){b n c:Nat}{L:List LE}{A B:Int}(a0:0<=A)(ab:A+12<B)(bn:B<=n)(t:bq h0 h b n L){Q:Value->af->Prop}
  (hQ:∀h' p k,bq h0 h' b n L->A<=p->p<B->Q (.tuple #[.int .i64 p,.int .i64 k]) h'):call 94 [.slice (some ⟨b,0,none⟩) n c,.int .i64 A,.int .i64 B,.func (.func 51) #[] #[]] h Q:=by
 have cZ:=aq
 replace aq:=t.ext.aC aq
 have gn:=t.gn;obtain⟨l,hl⟩:∃z,z=B-A:=⟨_,rfl⟩;have e1:arith .sub .i64 B A=l:=by rw[hl];exact bP hA om om
 have e2:arith .quo .i64 l 4=l / 4:=ve hA om om om;obtain⟨q,hq⟩:∃z,z=l / 4:=⟨_,rfl⟩;rw[<-hq]at e2;have e3:arith .mul .i64 q 1=q:=by rw[jn hA om om];omega
 obtain⟨q2,Cm⟩:∃z,z=q*2:=⟨_,rfl⟩;have e4:arith .mul .i64 q 2=q2:=by rw[Cm];exact jn hA om om
 obtain⟨q3,hq3⟩:∃z,z=q*3:=⟨_,rfl⟩;have e5:arith .mul .i64 q 3=q3:=by rw[hq3];exact jn hA om om
 obtain⟨i,hi⟩:∃z,z=A+q:=⟨_,rfl⟩;have e6:arith .add .i64 A q=i:=by rw[hi];exact aF hA om om
 obtain⟨j,hj⟩:∃z,z=A+q2:=⟨_,rfl⟩;have e7:arith .add .i64 A q2=j:=by rw[hj];exact aF hA om om
 obtain⟨k,hk⟩:∃z,z=A+q3:=⟨_,rfl⟩;have e8:arith .add .i64 A q3=k:=by rw[hk];exact aF hA om om
 refine hA.aN Tryz.func94 x94.2 (hA.alike _ _ _ rfl) aq (zc ?_);rw[cM hA,df hA];have x1:Ext h (h.push 1 [Value.int .i64 0]):=.push _ _ _;have o1:=bW.push h 1 [Value.int .i64 0];have n1:(h.push 1 [Value.int .i64 0]).next=h.next+1:=rfl;generalize h.push 1 [Value.int .i64 0]=h1 at *;obtain⟨sb,Ur⟩:∃z,z=h.next:=⟨_,rfl⟩;rw[<-Ur]at o1 ⊢;have t1:=t.more x1;have s1:wu h0 h1 b sb (.int .i64 0):=⟨o1,om,by have:=t.ext.next;omega,by have:=t.lt;omega⟩
 (refine zq ?_;repeat ((first|rw[e1]|rw[e2]|rw[e3]|rw[e6]|rw[e4]|rw[e7]|rw[e5]|rw[e8]);refine zq ?_))
 refine br (8<=l) (by rw[bY hA]) (fun _=>?_) (fun z=>om)<;>refine zc ?_;have tail:∀(h5:af) (r w5:Int),bq h0 h5 b n L->wu h0 h5 b sb (.int .i64 w5)->A<=r->r<B->rd h5 sb 0 1 [.int .i64 w5]:=fun h5 r w5 t5 s5 _ _=>iS hA (s5.own.aM (o:=0) (n:=1) (by simp))
 refine br (50<=l) (by rw[bY hA]) (fun c50=>?_) (fun c50=>?_)<;>refine zc ?_
 ·refine qe hA cZ (i:=i) om om t1 s1 (fun h2 i2 w2 t2 s2 m2=>⟨_,rfl,?_⟩)
  refine zc ?_;refine qe hA cZ (i:=j) om om t2 s2 (fun h3 j3 w3 t3 s3 m3=>⟨_,rfl,?_⟩);refine zc ?_;refine qe hA cZ (i:=k) om om t3 s3 (fun h4 k4 w4 t4 s4 m4=>⟨_,rfl,?_⟩);refine zc ?_;refine uF hA cZ (i:=i2) (j:=j3) (k:=k4) om om om om om om t4 s4 (fun h5 r w5 t5 s5 m5=>⟨_,rfl,?_⟩);have r5:=tail h5 r w5 t5 s5 om om;refine zq ?_;refine br (w5=0) (by rw[de hA]) (fun _=>?_) (fun _=>?_)<;>refine zc ?_
  ·exact hQ h5 r _ t5 om om
  refine br (w5=12) (by rw[de hA]) (fun _=>?_) (fun _=>?_)<;>refine zc ?_
  ·exact hQ h5 r _ t5 om om
  ·exact hQ h5 r _ t5 om om
 ·refine uF hA cZ (i:=i) (j:=j) (k:=k) om om om om om om t1 s1 (fun h5 r w5 t5 s5 m5=>⟨_,rfl,?_⟩)
  have r5:=tail h5 r w5 t5 s5 om om;refine zq ?_;refine br (w5=0) (by rw[de hA]) (fun _=>?_) (fun _=>?_)<;>refine zc ?_
  ·exact hQ h5 r _ t5 om om
  refine br (w5=12) (by rw[de hA]) (fun _=>?_) (fun _=>?_)<;>refine zc ?_
  ·exact hQ h5 r _ t5 om om
  ·exact hQ h5 r _ t5 om om
theorem Nh{h0:af}(aq:h0.low<=h0.next){b n c:Nat}{L0:List LE}{A B:Int}(a0:0<=A)(bn:B<=n){Q:Exit->SS->Prop}
  (hQ:∀h' L e kn,bq h0 h' b n L->aJ A B L0 L->Q (.exit 0) ⟨e,kn,[],h'⟩) :
  ∀(m:Nat) (i j:Int) (h:af) (L:List LE),(j-i).toNat<=m->A<=i->j<B->bq h0 h b n L->aJ A B L0 L->
   head 95 2 0 ⟨[(0,.slice (some ⟨b,0,none⟩) n c),(8,.int .i64 i),(9,.int .i64 j)],0,[],h⟩ Q:=by
 intro m
 induction m with
 |zero=>
  intro i j h L hm i0 j1 t hp;refine hA.ar Tryz.func95 x95.2 (zc ?_);refine br (i<j) (by rw[aA hA]) (fun q=>om) (fun _=>?_)<;>refine zc ?_;exact hQ h L _ _ t hp
 |succ m ih=>
  intro i j h L hm i0 j1 t hp;have gn:=t.gn;refine hA.ar Tryz.func95 x95.2 (zc ?_);refine br (i<j) (by rw[aA hA]) (fun ci=>?_) (fun _=>?_)<;>refine zc ?_
  rotate_left
  ·exact hQ h L _ _ t hp
  have e1:arith .add .i64 i 1=i+1:=aF hA om om;have e2:arith .sub .i64 j 1=j-1:=bP hA om om;obtain⟨i2,DA⟩:∃z,z=i+1:=⟨_,rfl⟩;obtain⟨j3,Te⟩:∃z,z=j-1:=⟨_,rfl⟩;rw[<-DA]at e1;rw[<-Te]at e2;obtain⟨h5,sf⟩:∃z,z=aG h 16:=⟨_,rfl⟩;have x5:Ext h h5:=by rw[sf];exact au hA _ _
  have t5:=t.more x5;obtain⟨PM,PN,PO,b5,g5,f5,r5⟩:=t5.read (i:=i) om om;obtain⟨B7,B8,Cb,PQ,Cn,N5,Cc⟩:=t5.read (i:=j) om om;have q5:=aD hA r5;have Kx:=aD hA Cc;rw[<-sf];obtain⟨Rd,Co,p5,Re,Cp⟩:=cY hA t5 (i:=i) (j:=j) om om om om g5 Cn
  (refine zq ?_;repeat ((first|rw[e1]|rw[e2]);refine zq ?_))
  exact ih i2 j3 Co _ om om om Cp (hp.trans (aJ.swap L a0 (by have:=t.len;omega) om om om om))
theorem Tg{h0 h:af}(aq:h0.low<=h0.next){b n c:Nat}{L:List LE}{A B:Int}(a0:0<=A)(ab:A<=B)(bn:B<=n)(t:bq h0 h b n L){Q:Value->af->Prop}
  (hQ:∀h' L',bq h0 h' b n L'->aJ A B L L'->Q (.tuple #[]) h'):call 95 [.slice (some ⟨b,0,none⟩) n c,.int .i64 A,.int .i64 B,.func (.func 51) #[] #[]] h Q:=by
 have cZ:=aq
 replace aq:=t.ext.aC aq
 have gn:=t.gn;refine hA.aN Tryz.func95 x95.2 (hA.alike _ _ _ rfl) aq (zc ?_);rw[bP hA om om];refine Nh hA cZ (L0:=L) a0 bn (fun h' L' e kn t' hp=>?_) (B-1-A).toNat A (B-1) h L (Nat.le_refl _) om om t (.refl _ _ _);refine zc ?_;exact hQ h' L' t' hp
