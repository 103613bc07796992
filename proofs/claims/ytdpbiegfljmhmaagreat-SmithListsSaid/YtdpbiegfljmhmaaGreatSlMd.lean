import Derived.Test.YtdpbiegfljmhmaaGreatSlA
set_option linter.unusedSimpArgs false
set_option linter.unusedVariables false
namespace Go.Proofs.YtdpbiegfljmhmaaGreat
open Go.cV
set_option maxRecDepth 100000
structure mm{α:Type}[Inhabited α](le:α->α->Prop)(L:List α)(a b i j:Int):Prop where
 i0:a<i
 j1:j<b
 ij:i<=j+1
 low:∀p:Int,a<p->p<i->le (gt L p) (gt L a)
theorem mm.left{α:Type}[Inhabited α]{le:α->α->Prop}{L:List α}{a b i j:Int}(h:mm le L a b i j)(c:i<=j)(w:le (gt L i) (gt L a)):mm le L a b (i+1) j:=
 ⟨by have:=h.i0;omega,h.j1,om,fun p p0 p1=>by
  by_cases e:p=i
  ·rw[e];exact w
  ·exact h.low p p0 om⟩
theorem mm.right{α:Type}[Inhabited α]{le:α->α->Prop}{L:List α}{a b i j:Int}(h:mm le L a b i j)(c:i<=j):mm le L a b i (j-1):=⟨h.i0,by have:=h.j1;omega,om,h.low⟩
theorem mm.swap{α:Type}[Inhabited α]{le:α->α->Prop}{L:List α}{a b i j:Int}(a0:0<=a)(hb:b<=L.length)(h:mm le L a b i j)(c:i<j)(w:le (gt L j) (gt L a)):mm le (dG L i j) a b (i+1) (j-1):=by
 have hi:=h.i0;have hj:=h.j1;have g:∀k:Int,0<=k->gt (dG L i j) k=if k=j then gt L i else if k=i then gt L j else gt L k:=fun k k0=>jG L om om om om k0
 refine⟨om,om,om,fun p p0 p1=>?_⟩;rw[g p om,g a a0,if_neg (show ¬p=j by omega),if_neg (show ¬a=j by omega),if_neg (show ¬a=i by omega)];by_cases e:p=i
 ·rw[if_pos e];exact w
 ·rw[if_neg e];exact h.low p p0 om
structure wW(h0 h:af)(b sb:Nat)(v:Value):Prop where
 own:ct h sb 1 [v]
 lt:sb<h.next
 cI:h0.next<=sb
 ne:sb≠b
theorem wW.more{h0 h h':af}{b sb:Nat}{v:Value}(t:wW h0 h b sb v)(e:Ext h h'):wW h0 h' b sb v:=⟨t.own.ext e t.lt,Nat.lt_of_lt_of_le t.lt e.next,t.cI,t.ne⟩
theorem wW.put{h0 h:af}{b sb n:Nat}{v:Value}{L:List LE}(t:wW h0 h b sb v)(d:bA h0 h b n L)(w:Value):∃h',h.write sb 0 [w]=some h'/\wW h0 h' b sb w/\bA h0 h' b n L:=by
 obtain⟨h',w1,w2,w3⟩:=t.own.write (o:=0) (vs:=[w]) (by simp);exact⟨h',w1,⟨w2,by rw[w3.next];exact t.lt,t.cI,t.ne⟩,⟨w3.ext d.ext t.cI,w3.own d.own (Ne.symm t.ne),d.cI,by rw[w3.next];exact d.lt,d.len,d.base,d.ok,d.gF⟩⟩
variable{F:bg}{call head arith b0 c0 d0 e0 g0 m0 n0 o0 s0 t0 u0 v0 nz w0 rd wr push next x0 y0 z0 d1 u1 z1 c2 d2 n2 o2 u2 z2 c3 fresh aB aH d3 l3 lt ne n3 o3 p3 yn u3 y3 z3 a4 c4 d4:_}(hA:AP F ⟨call,head,arith,b0,c0,d0,e0,g0,m0,n0,o0,s0,t0,u0,v0,nz,w0,rd,wr,push,next,x0,y0,z0,d1,u1,z1,c2,d2,n2,o2,u2,z2,c3,fresh,aB,aH,d3,l3,lt,ne,n3,o3,p3,yn,u3,y3,z3,a4,c4,d4⟩)
include hA
theorem Ku{h0:af}(ar:h0.low<=h0.next){b n c:Nat}{L0:List LE}{A B i:Int}(a0:0<=A)(ab:B<=n)(ai:A<i)(ib:i<B){Q:Exit->SS->Prop}
  (hQ:∀h' L kn,bA h0 h' b n L->aK A B L0 L->aI gM L A (i+1)->Q (.exit 2) ⟨[(0,.slice (some ⟨b,0,none⟩) n c),(1,.int .i64 A),(2,.int .i64 B),(3,.func (.func 51) #[] #[]),(8,.int .i64 i)],kn,[],h'⟩) :
  ∀(m:Nat) (j:Int) (h:af) (L:List LE),(j-A).toNat<=m->A<=j->j<=i->bA h0 h b n L->aK A B L0 L->oZ gM L A i j->
   head 91 4 0 ⟨[(0,.slice (some ⟨b,0,none⟩) n c),(1,.int .i64 A),(2,.int .i64 B),(3,.func (.func 51) #[] #[]),(8,.int .i64 i),(9,.int .i64 j)],0,[],h⟩ Q:=by
 intro m
 induction m with
 |zero=>
  intro j h L hm j0 j1 t hp hI;obtain rfl:j=A:=om
  refine hA.au Tryz.func91 x91.2 (zc ?_);refine br (j<j) (by rw[cS hA]) (fun q=>om) (fun _=>?_)<;>refine zc ?_;exact hQ _ _ _ (t.more (aw hA _ _)) hp hI.first
 |succ m ih=>
  intro j h L hm j0 j1 t hp hI;by_cases cj:A<j
  rotate_left
  ·obtain rfl:j=A:=om
   refine hA.au Tryz.func91 x91.2 (zc ?_);refine br (j<j) (by rw[cS hA]) (fun q=>om) (fun _=>?_)<;>refine zc ?_;exact hQ _ _ _ (t.more (aw hA _ _)) hp hI.first
  have gF:=t.gF;have e1:arith .sub .i64 j 1=j-1:=bN hA om om;obtain⟨j',YO⟩:∃z,z=j-1:=⟨_,rfl⟩;rw[<-YO]at e1;obtain⟨h9,iH⟩:∃z,z=aH h 17:=⟨_,rfl⟩;have x9:Ext h h9:=by rw[iH];exact aw hA _ _
  have t9:=t.more x9;have l9:=t9.ext.aD ar;obtain⟨x1x,x1y,x1z,y1,g1,f1,r1⟩:=t9.read (i:=j) om om;obtain⟨x2x,x2y,x2z,y2,g2,f2,r2⟩:=t9.read (i:=j') om om;have q1:=aE hA r1;have q2:=aE hA r2;refine hA.au Tryz.func91 x91.2 (zc ?_);refine br (A<j) (by rw[cS hA]) (fun _=>?_) (fun q=>absurd cj q)<;>refine zc ?_;rw[<-iH]
  (refine zq ?_;repeat ((first|rw[e1]);refine zq ?_))
  refine fz hA (aC hA h9) (dH hA f1) (dH hA f2) (fun u Ap hu x10=>⟨_,rfl,?_⟩);refine zc ?_;obtain⟨OT,MQ⟩:∃z,z=aB h9 Ap:=⟨_,rfl⟩;have Th:Ext h9 OT:=by rw[MQ];exact bW hA l9 (.refl h9) x10
  have t11:=t9.more Th;rw[<-MQ];refine br (u<0) (by rw[aA hA]) (fun c1=>?_) (fun c1=>?_)<;>refine zc ?_
  rotate_left
  ·refine hQ _ _ _ t11 hp (hI.stop dR cj ?_)
   rw[<-YO];rw[hu]at c1;exact LL.not_lt.1 (fun w=>c1 (cT.2 w))
  have w:¬gM (gt L (j-1)) (gt L j):=by
   rw[<-YO];rw[hu]at c1;exact LL.not_le.2 (cT.1 c1)
  obtain⟨PX,Em⟩:∃z,z=aH OT 18:=⟨_,rfl⟩;have x12:Ext OT PX:=by rw[Em];exact aw hA _ _
  have t12:=t11.more x12;obtain⟨x1'x,x1'y,x1'z,y1',g1',_,Wa⟩:=t12.read (i:=j) om om;obtain⟨x2'x,x2'y,x2'z,y2',Az,_,nJ⟩:=t12.read (i:=j') om om;rw[g1]at g1';rw[g2]at Az;cases g1';cases Az;have q1':=aE hA Wa;have FA:=aE hA nJ;obtain⟨Z4,Yo,p1,p2,t14⟩:=de hA t12 (i:=j) (j:=j') om om om om g1 g2;rw[<-Em]
  (refine zq ?_;repeat ((first|rw[e1]);refine zq ?_))
  refine ih j' Yo _ om om om t14 (hp.trans (aK.swap L om (by rw[t.len];exact ab) om om om om)) ?_;have:=hI.step dR om (by rw[t.len];omega) cj j1 w;rw[<-YO]at this;exact this
theorem Kv{h0:af}(ar:h0.low<=h0.next){b n c:Nat}{L0:List LE}{A B:Int}(a0:0<=A)(ab:B<=n){Q:Exit->SS->Prop}
  (hQ:∀h' L e kn,bA h0 h' b n L->aK A B L0 L->aI gM L A B->Q (.exit 0) ⟨e,kn,[],h'⟩) :
  ∀(m:Nat) (i:Int) (h:af) (L:List LE),(B-i).toNat<=m->A<i->bA h0 h b n L->aK A B L0 L->aI gM L A i->
   head 91 1 0 ⟨[(0,.slice (some ⟨b,0,none⟩) n c),(1,.int .i64 A),(2,.int .i64 B),(3,.func (.func 51) #[] #[]),(8,.int .i64 i)],0,[],h⟩ Q:=by
 intro m
 induction m with
 |zero=>
  intro i h L hm i0 t hp hs;refine hA.au Tryz.func91 x91.2 (zc ?_);refine br (i<B) (by rw[aA hA]) (fun q=>om) (fun _=>?_)<;>refine zc ?_;exact hQ _ _ _ _ t hp (fun p q p0 pq q1=>hs p q p0 pq om)
 |succ m ih=>
  intro i h L hm i0 t hp hs;have gF:=t.gF;refine hA.au Tryz.func91 x91.2 (zc ?_);refine br (i<B) (by rw[aA hA]) (fun ci=>?_) (fun _=>?_)<;>refine zc ?_
  rotate_left
  ·exact hQ _ _ _ _ t hp (fun p q p0 pq q1=>hs p q p0 pq om)
  refine Ku hA ar (L0:=L0) a0 ab i0 ci (fun h' L' kn t' sP rG=>?_) (i-A).toNat i h L (Nat.le_refl _) om om t hp (.start hs);refine zc ?_;rw[aG hA om om];exact ih (i+1) h' L' om om t' sP rG
theorem zf{h0 h:af}(ar:h0.low<=h0.next){b n c:Nat}{L:List LE}{A B:Int}(a0:0<=A)(an:A<=n)(ab:B<=n)(t:bA h0 h b n L){Q:Value->af->Prop}
  (hQ:∀h' L',bA h0 h' b n L'->aK A B L L'->aI gM L' A B->Q (.tuple #[]) h'):call 91 [.slice (some ⟨b,0,none⟩) n c,.int .i64 A,.int .i64 B,.func (.func 51) #[] #[]] h Q:=by
 have df:=ar
 replace ar:=t.ext.aD ar
 have gF:=t.gF;refine hA.aO Tryz.func91 x91.2 (hA.alike _ _ _ rfl) ar (zc ?_);rw[aG hA om om];refine Kv hA df (L0:=L) a0 ab (fun h' L' e kn t' hp hs=>?_) (B-(A+1)).toNat (A+1) h L (Nat.le_refl _) om t (.refl _ _ _) (.one om);refine zc ?_;exact hQ h' L' t' hp hs
set_option maxHeartbeats 4000000 in
theorem Kw{h0:af}(ar:h0.low<=h0.next){b n c':Nat}{L0:List LE}{f lo hi:Int}(f0:0<=f)(l0:0<=lo)(hn:f+hi<=n){Q:Exit->SS->Prop}
  (hQ:∀h' L x e kn,(x=.exit 0\/x=.ret)->bA h0 h' b n L->aK f (f+hi) L0 L->m8 gM L f lo hi->Q x ⟨e,kn,[],h'⟩) :
  ∀(m:Nat) (r:Int) (h:af) (L:List LE),(hi-r).toNat<=m->lo<=r->r<=100000->bA h0 h b n L->aK f (f+hi) L0 L->o7 gM L f lo hi r->
   head 110 1 0 ⟨[(0,.slice (some ⟨b,0,none⟩) n c'),(2,.int .i64 hi),(3,.int .i64 f),(4,.func (.func 51) #[] #[]),(10,.int .i64 r)],0,[],h⟩ Q:=by
 intro m
 induction m with
 |zero=>
  intro r h L hm r0 r1 t hp hX;have gF:=t.gF;have e1:arith .mul .i64 2 r=2*r:=jg hA om om;obtain⟨c,hc⟩:∃z,z=2*r+1:=⟨_,rfl⟩;have e2:arith .add .i64 (2*r) 1=c:=by rw[hc];exact aG hA om om
  refine hA.au Tryz.func110 B8 (zc ?_);rw[e1,e2];refine br (hi<=c) (by rw[bX hA]) (fun _=>?_) (fun q=>om)<;>refine zc ?_;exact hQ _ L _ _ _ (.inl rfl) t hp (hX.leaf om)
 |succ m ih=>
  intro r h L hm r0 r1 t hp hX;have gF:=t.gF;have e1:arith .mul .i64 2 r=2*r:=jg hA om om;obtain⟨k,hk⟩:∃z,z=2*r+1:=⟨_,rfl⟩;have e2:arith .add .i64 (2*r) 1=k:=by rw[hk];exact aG hA om om
  refine hA.au Tryz.func110 B8 (zc ?_);rw[e1,e2];refine br (hi<=k) (by rw[bX hA]) (fun _=>?_) (fun ck=>?_)<;>refine zc ?_
  ·exact hQ _ L _ _ _ (.inl rfl) t hp (hX.leaf om)
  obtain⟨k1,Fp⟩:∃z,z=k+1:=⟨_,rfl⟩;have e3:arith .add .i64 k 1=k1:=by rw[Fp];exact aG hA om om
  rw[e3];refine br (k1<hi) (by rw[aA hA]) (fun ck1=>?_) (fun ck1=>?_)<;>refine zc ?_
  rotate_left
  ·obtain⟨hT,Wt⟩:∃z,z=aH h 22:=⟨_,rfl⟩
   have tT:=t.more (show Ext h hT by rw[Wt];exact aw hA _ _);rw[<-Wt];obtain⟨c,Xe⟩:∃z,z=k:=⟨_,rfl⟩;rw[<-Xe];have OM:c=2*r+1\/c=2*r+2:=om
   have Xf:c<hi:=om
   have hc:∀k:Int,0<k->k<hi->par k=r->gM (gt L (f+k)) (gt L (f+c)):=fun k' k0 Yh k2=>by
    have:=CL k2 k0;rw[show k'=c by omega];exact dR.refl _
   have Oa:arith .add .i64 f r=f+r:=aG hA om om;have Ob:arith .add .i64 f c=f+c:=aG hA om om;obtain⟨fr,vj⟩:∃z,z=f+r:=⟨_,rfl⟩;obtain⟨fc,IN⟩:∃z,z=f+c:=⟨_,rfl⟩;rw[<-vj]at Oa;rw[<-IN]at Ob;obtain⟨h3,R2⟩:∃z,z=aH hT 16:=⟨_,rfl⟩;have x3:Ext hT h3:=by rw[R2];exact aw hA _ _
   have t3:=tT.more x3;obtain⟨a3x,a3y,a3z,b3,g3,f3,r3⟩:=t3.read (i:=fr) om om;obtain⟨Xg,Xh,Xi,b3',g3',Xj,Xk⟩:=t3.read (i:=fc) om om;have q3:=aE hA r3;have W8:=aE hA Xk;rw[<-R2]
   (refine zq ?_;repeat ((first|rw[Oa]|rw[Ob]);refine zq ?_))
   refine fz hA (aC hA h3) (dH hA f3) (dH hA Xj) (fun v Xl hv x3a=>⟨_,rfl,?_⟩);have R3:=dK hA ar t3 x3a;refine zc ?_;generalize aB h3 Xl=R4 at *;refine br (0<=v) (by rw[cB hA,aA hA];by_cases z:v<0<;>simp[z]<;>omega) (fun cv=>?_) (fun cv=>?_)<;>refine zc ?_
   ·refine hQ _ L _ _ _ (.inr rfl) R3 hp (hX.stop dR hc ?_)
    rw[hv]at cv;rw[<-vj,<-IN];exact LL.not_lt.1 (fun w=>by have:=cT.2 w;omega)
   have w:gM (gt L (f+r)) (gt L (f+c)):=by
    rw[hv]at cv;rw[<-vj,<-IN];exact LL.le_of_lt (cT.1 om)
   obtain⟨h4,R5⟩:∃z,z=aH R4 24:=⟨_,rfl⟩;have x4:Ext R4 h4:=by rw[R5];exact aw hA _ _
   have t4:=R3.more x4;obtain⟨a4x,a4y,a4z,b4,g4,f4,r4⟩:=t4.read (i:=fr) om om;obtain⟨Xm,Xn,Xo,b4',Xp,f4',Xq⟩:=t4.read (i:=fc) om om;have q4:=aE hA r4;have q4':=aE hA Xq;rw[<-R5];obtain⟨h4c,Xr,p4,p4',Xs⟩:=de hA t4 (i:=fr) (j:=fc) om om om om g4 Xp
   (refine zq ?_;repeat ((first|rw[Oa]|rw[Ob]);refine zq ?_))
   refine ih c Xr _ om om om Xs (hp.trans (aK.swap L om (by have:=t.len;omega) om om om om)) ?_;rw[vj,IN];exact hX.step dR om l0 (by have:=t.len;omega) r0 OM Xf hc w
  have efk:arith .add .i64 f k=f+k:=aG hA om om;obtain⟨fk,hfk⟩:∃z,z=f+k:=⟨_,rfl⟩;rw[<-hfk]at efk;obtain⟨YP,aaq⟩:∃z,z=fk+1:=⟨_,rfl⟩;have aar:arith .add .i64 fk 1=YP:=by rw[aaq];exact aG hA om om
  obtain⟨h2,mo⟩:∃z,z=aH h 22:=⟨_,rfl⟩;have x2:Ext h h2:=by rw[mo];exact aw hA _ _
  have t2:=t.more x2;obtain⟨Hh,Hi,Hj,b2,g2,f2,r2⟩:=t2.read (i:=fk) om om;obtain⟨sK,sL,sM,AW,Az,uw,nJ⟩:=t2.read (i:=YP) om om;have q2:=aE hA r2;have FA:=aE hA nJ;rw[<-mo]
  (refine zq ?_;repeat ((first|rw[efk]|rw[aar]);refine zq ?_))
  refine fz hA (aC hA h2) (dH hA f2) (dH hA uw) (fun u wm hu x2a=>⟨_,rfl,?_⟩);have pA:=dK hA ar t2 x2a;refine zc ?_;generalize aB h2 wm=pB at *;have tT:=pA;generalize pB=hT at *;refine br (u<0) (by rw[aA hA]) (fun cu=>?_) (fun cu=>?_)<;>refine zc ?_
  ·rw[hu]at cu
   rw[e3];obtain⟨c,Xe⟩:∃z,z=k1:=⟨_,rfl⟩;rw[<-Xe];have OM:c=2*r+1\/c=2*r+2:=om
   have Xf:c<hi:=om
   have hc:∀k:Int,0<k->k<hi->par k=r->gM (gt L (f+k)) (gt L (f+c)):=fun k' k0 Yh k2=>by
    rcases CL k2 k0 with e|e
    ·rw[show f+k'=fk by omega,show f+c=YP by omega]
     exact LL.le_of_lt (cT.1 cu)
    ·rw[show k'=c by omega]
     exact dR.refl _
   have Oa:arith .add .i64 f r=f+r:=aG hA om om;have Ob:arith .add .i64 f c=f+c:=aG hA om om;obtain⟨fr,vj⟩:∃z,z=f+r:=⟨_,rfl⟩;obtain⟨fc,IN⟩:∃z,z=f+c:=⟨_,rfl⟩;rw[<-vj]at Oa;rw[<-IN]at Ob;obtain⟨h3,R2⟩:∃z,z=aH hT 16:=⟨_,rfl⟩;have x3:Ext hT h3:=by rw[R2];exact aw hA _ _
   have t3:=tT.more x3;obtain⟨a3x,a3y,a3z,b3,g3,f3,r3⟩:=t3.read (i:=fr) om om;obtain⟨Xg,Xh,Xi,b3',g3',Xj,Xk⟩:=t3.read (i:=fc) om om;have q3:=aE hA r3;have W8:=aE hA Xk;rw[<-R2]
   (refine zq ?_;repeat ((first|rw[Oa]|rw[Ob]);refine zq ?_))
   refine fz hA (aC hA h3) (dH hA f3) (dH hA Xj) (fun v Xl hv x3a=>⟨_,rfl,?_⟩);have R3:=dK hA ar t3 x3a;refine zc ?_;generalize aB h3 Xl=R4 at *;refine br (0<=v) (by rw[cB hA,aA hA];by_cases z:v<0<;>simp[z]<;>omega) (fun cv=>?_) (fun cv=>?_)<;>refine zc ?_
   ·refine hQ _ L _ _ _ (.inr rfl) R3 hp (hX.stop dR hc ?_)
    rw[hv]at cv;rw[<-vj,<-IN];exact LL.not_lt.1 (fun w=>by have:=cT.2 w;omega)
   have w:gM (gt L (f+r)) (gt L (f+c)):=by
    rw[hv]at cv;rw[<-vj,<-IN];exact LL.le_of_lt (cT.1 om)
   obtain⟨h4,R5⟩:∃z,z=aH R4 24:=⟨_,rfl⟩;have x4:Ext R4 h4:=by rw[R5];exact aw hA _ _
   have t4:=R3.more x4;obtain⟨a4x,a4y,a4z,b4,g4,f4,r4⟩:=t4.read (i:=fr) om om;obtain⟨Xm,Xn,Xo,b4',Xp,f4',Xq⟩:=t4.read (i:=fc) om om;have q4:=aE hA r4;have q4':=aE hA Xq;rw[<-R5];obtain⟨h4c,Xr,p4,p4',Xs⟩:=de hA t4 (i:=fr) (j:=fc) om om om om g4 Xp
   (refine zq ?_;repeat ((first|rw[Oa]|rw[Ob]);refine zq ?_))
   refine ih c Xr _ om om om Xs (hp.trans (aK.swap L om (by have:=t.len;omega) om om om om)) ?_;rw[vj,IN];exact hX.step dR om l0 (by have:=t.len;omega) r0 OM Xf hc w
  ·rw[hu]at cu
   obtain⟨c,Xe⟩:∃z,z=k:=⟨_,rfl⟩;rw[<-Xe];have OM:c=2*r+1\/c=2*r+2:=om
   have Xf:c<hi:=om
   have hc:∀k:Int,0<k->k<hi->par k=r->gM (gt L (f+k)) (gt L (f+c)):=fun k' k0 Yh k2=>by
    rcases CL k2 k0 with e|e
    ·rw[show k'=c by omega]
     exact dR.refl _
    ·rw[show f+k'=YP by omega,show f+c=fk by omega]
     exact LL.not_lt.1 (fun w=>cu (cT.2 w))
   have Oa:arith .add .i64 f r=f+r:=aG hA om om;have Ob:arith .add .i64 f c=f+c:=aG hA om om;obtain⟨fr,vj⟩:∃z,z=f+r:=⟨_,rfl⟩;obtain⟨fc,IN⟩:∃z,z=f+c:=⟨_,rfl⟩;rw[<-vj]at Oa;rw[<-IN]at Ob;obtain⟨h3,R2⟩:∃z,z=aH hT 16:=⟨_,rfl⟩;have x3:Ext hT h3:=by rw[R2];exact aw hA _ _
   have t3:=tT.more x3;obtain⟨a3x,a3y,a3z,b3,g3,f3,r3⟩:=t3.read (i:=fr) om om;obtain⟨Xg,Xh,Xi,b3',g3',Xj,Xk⟩:=t3.read (i:=fc) om om;have q3:=aE hA r3;have W8:=aE hA Xk;rw[<-R2]
   (refine zq ?_;repeat ((first|rw[Oa]|rw[Ob]);refine zq ?_))
   refine fz hA (aC hA h3) (dH hA f3) (dH hA Xj) (fun v Xl hv x3a=>⟨_,rfl,?_⟩);have R3:=dK hA ar t3 x3a;refine zc ?_;generalize aB h3 Xl=R4 at *;refine br (0<=v) (by rw[cB hA,aA hA];by_cases z:v<0<;>simp[z]<;>omega) (fun cv=>?_) (fun cv=>?_)<;>refine zc ?_
   ·refine hQ _ L _ _ _ (.inr rfl) R3 hp (hX.stop dR hc ?_)
    rw[hv]at cv;rw[<-vj,<-IN];exact LL.not_lt.1 (fun w=>by have:=cT.2 w;omega)
   have w:gM (gt L (f+r)) (gt L (f+c)):=by
    rw[hv]at cv;rw[<-vj,<-IN];exact LL.le_of_lt (cT.1 om)
   obtain⟨h4,R5⟩:∃z,z=aH R4 24:=⟨_,rfl⟩;have x4:Ext R4 h4:=by rw[R5];exact aw hA _ _
   have t4:=R3.more x4;obtain⟨a4x,a4y,a4z,b4,g4,f4,r4⟩:=t4.read (i:=fr) om om;obtain⟨Xm,Xn,Xo,b4',Xp,f4',Xq⟩:=t4.read (i:=fc) om om;have q4:=aE hA r4;have q4':=aE hA Xq;rw[<-R5];obtain⟨h4c,Xr,p4,p4',Xs⟩:=de hA t4 (i:=fr) (j:=fc) om om om om g4 Xp
   (refine zq ?_;repeat ((first|rw[Oa]|rw[Ob]);refine zq ?_))
   refine ih c Xr _ om om om Xs (hp.trans (aK.swap L om (by have:=t.len;omega) om om om om)) ?_;rw[vj,IN];exact hX.step dR om l0 (by have:=t.len;omega) r0 OM Xf hc w
theorem IP{h0 h:af}(ar:h0.low<=h0.next){b n c:Nat}{L:List LE}{f lo hi:Int}(f0:0<=f)(l0:0<=lo)(l1:lo<=100000)(hn:f+hi<=n)(t:bA h0 h b n L)(hX:o7 gM L f lo hi lo){Q:Value->af->Prop}
  (hQ:∀h' L',bA h0 h' b n L'->aK f (f+hi) L L'->m8 gM L' f lo hi->Q (.tuple #[]) h'):call 110 [.slice (some ⟨b,0,none⟩) n c,.int .i64 lo,.int .i64 hi,.int .i64 f,.func (.func 51) #[] #[]] h Q:=by
 have df:=ar
 replace ar:=t.ext.aD ar
 refine hA.aO Tryz.func110 B8 (hA.alike _ _ _ rfl) ar (zc ?_);refine Kw hA df (L0:=L) f0 l0 hn (fun h' L' x e kn hx t' hp hh=>?_) (hi-lo).toNat lo h L (Nat.le_refl _) (Int.le_refl _) l1 t (.refl _ _ _) hX;rcases hx with rfl|rfl
 ·refine zc ?_
  exact hQ h' L' t' hp hh
 ·refine zc ?_
  exact hQ h' L' t' hp hh
theorem Hk{h0:af}(ar:h0.low<=h0.next){b n c:Nat}{L0:List LE}{f hi:Int}(f0:0<=f)(hn:f+hi<=n){Q:Exit->SS->Prop}
  (hQ:∀h' L,bA h0 h' b n L->aK f (f+hi) L0 L->m8 gM L f 0 hi->Q (.exit 0) ⟨[(0,.slice (some ⟨b,0,none⟩) n c),(3,.func (.func 51) #[] #[]),(8,.int .i64 f),(9,.int .i64 0),(10,.int .i64 hi)],0,[],h'⟩) :
  ∀(m:Nat) (i:Int) (h:af) (L:List LE),(i+1).toNat<=m->-1<=i->i<=100000->bA h0 h b n L->aK f (f+hi) L0 L->m8 gM L f (i+1) hi->
   head 92 4 0 ⟨[(0,.slice (some ⟨b,0,none⟩) n c),(3,.func (.func 51) #[] #[]),(8,.int .i64 f),(9,.int .i64 0),(10,.int .i64 hi),(11,.int .i64 i)],0,[],h⟩ Q:=by
 intro m
 induction m with
 |zero=>
  intro i h L hm i0 i1 t hp hh;obtain rfl:i=-1:=om
  refine hA.au Tryz.func92 x92.2 (zc ?_);refine br False (by rw[bX hA];rfl) (fun q=>q.elim) (fun _=>?_)<;>refine zc ?_;exact hQ h L t hp hh
 |succ m ih=>
  intro i h L hm i0 i1 t hp hh;refine hA.au Tryz.func92 x92.2 (zc ?_);refine br (0<=i) (by rw[bX hA]) (fun ci=>?_) (fun ci=>?_)<;>refine zc ?_
  rotate_left
  ·obtain rfl:i=-1:=om
   exact hQ h L t hp hh
  refine IP hA ar f0 ci i1 hn t (.start ci hh) (fun h' L' t' sP zU=>?_);refine zc ?_;rw[bN hA om om];exact ih (i-1) h' L' om om om t' (hp.trans sP) (by rw[show i-1+1=i by omega];exact zU)
theorem Oc{h0:af}(ar:h0.low<=h0.next){b n c:Nat}{L0:List LE}{f B:Int}(f0:0<=f)(hn:B<=n){Q:Exit->SS->Prop}
  (hQ:∀h' L e kn,bA h0 h' b n L->aK f B L0 L->aI gM L f B->Q (.exit 2) ⟨e,kn,[],h'⟩) :
  ∀(m:Nat) (i:Int) (h:af) (L:List LE),(i+1).toNat<=m->-1<=i->f+i<B->bA h0 h b n L->aK f B L0 L->N6 gM L f (f+i+1) B->
   head 92 8 0 ⟨[(0,.slice (some ⟨b,0,none⟩) n c),(3,.func (.func 51) #[] #[]),(8,.int .i64 f),(9,.int .i64 0),(12,.int .i64 i)],0,[],h⟩ Q:=by
 intro m
 induction m with
 |zero=>
  intro i h L hm i0 i1 t hp hh;obtain rfl:i=-1:=om
  refine hA.au Tryz.func92 x92.2 (zc ?_);refine br False (by rw[bX hA];rfl) (fun q=>q.elim) (fun _=>?_)<;>refine zc ?_;exact hQ h L _ _ t hp (by have:=hh.up;rw[show f + -1+1=f by omega]at this;exact this)
 |succ m ih=>
  intro i h L hm i0 i1 t hp hh;have gF:=t.gF;refine hA.au Tryz.func92 x92.2 (zc ?_);refine br (0<=i) (by rw[bX hA]) (fun ci=>?_) (fun ci=>?_)<;>refine zc ?_
  rotate_left
  ·obtain rfl:i=-1:=om
   exact hQ h L _ _ t hp (by have:=hh.up;rw[show f + -1+1=f by omega]at this;exact this)
  have efi:arith .add .i64 f i=f+i:=aG hA om om;obtain⟨fi,hfi⟩:∃z,z=f+i:=⟨_,rfl⟩;rw[<-hfi]at efi hh;obtain⟨h2,mo⟩:∃z,z=aH h 20:=⟨_,rfl⟩;have x2:Ext h h2:=by rw[mo];exact aw hA _ _
  have t2:=t.more x2;obtain⟨Hh,Hi,Hj,b2,g2,f2,r2⟩:=t2.read (i:=f) om om;obtain⟨sK,sL,sM,AW,Az,uw,nJ⟩:=t2.read (i:=fi) om om;have q2:=aE hA r2;have FA:=aE hA nJ;rw[<-mo];obtain⟨h2c,YQ,p2,Xt,Xu⟩:=de hA t2 (i:=f) (j:=fi) om om om om g2 Az
  (refine zq ?_;repeat ((first|rw[efi]);refine zq ?_))
  obtain⟨k1,k2,k3⟩:=hh.swap dR f0 (by have:=t.len;omega) om om;rw[show fi-f=i by omega]at k1;have hsw:=aK.swap (a:=f) (b:=B) L (i:=f) (j:=fi) f0 (by have:=t.len;omega) om om om om;refine IP hA ar f0 om om om Xu k1 (fun h' L' t' sP zU=>?_);refine zc ?_;rw[bN hA om om];rw[<-hfi]at sP;obtain⟨k4,k5⟩:=sP.dL f0 om k2 k3;refine ih (i-1) h' L' om om om t' ((hp.trans hsw).trans (sP.wide f0 om om)) ?_;rw[show f+(i-1)+1=fi by omega];exact⟨by rw[show fi-f=i by omega];exact zU,k4,k5⟩
theorem QB{h0 h:af}(ar:h0.low<=h0.next){b n c:Nat}{L:List LE}{A B:Int}(a0:0<=A)(ab:A<B)(bn:B<=n)(t:bA h0 h b n L){Q:Value->af->Prop}
  (hQ:∀h' L',bA h0 h' b n L'->aK A B L L'->aI gM L' A B->Q (.tuple #[]) h'):call 92 [.slice (some ⟨b,0,none⟩) n c,.int .i64 A,.int .i64 B,.func (.func 51) #[] #[]] h Q:=by
 have df:=ar
 replace ar:=t.ext.aD ar
 have gF:=t.gF;obtain⟨hi,UF⟩:∃z,z=B-A:=⟨_,rfl⟩;have e1:arith .sub .i64 B A=hi:=by rw[UF];exact bN hA om om
 obtain⟨hj,hhj⟩:∃z,z=hi-1:=⟨_,rfl⟩;have e2:arith .sub .i64 hi 1=hj:=by rw[hhj];exact bN hA om om
 have e3:arith .quo .i64 hj 2=hj / 2:=tF hA om om om;obtain⟨hk,hhk⟩:∃z,z=hj / 2:=⟨_,rfl⟩;rw[<-hhk]at e3;refine hA.aO Tryz.func92 x92.2 (hA.alike _ _ _ rfl) ar (zc ?_);rw[e1]
 (refine zq ?_;repeat ((first|rw[e2]|rw[e3]);refine zq ?_))
 refine Hk hA df (L0:=L) (f:=A) (hi:=hi) a0 om (fun h' L' t' hp hh=>?_) (hk+1).toNat hk h L (Nat.le_refl _) om om t (.refl _ _ _) (fun k k0 k1 k2=>by unfold par at k2;omega)
 (refine zq ?_;repeat ((first|rw[e2]);refine zq ?_))
 refine Oc hA df (L0:=L) (f:=A) (B:=B) a0 bn (fun h2 L2 e kn t2 ZT hs=>?_) (hj+1).toNat hj h' L' (Nat.le_refl _) om om t' (by rw[show B=A+hi by omega];exact hp) ⟨by rw[show A+hj+1-A=hi by omega];exact hh,fun p q p0 pq q1=>om,fun p q p0 p1 q0 q1=>om⟩;refine zc ?_;exact hQ h2 L2 t2 ZT hs
theorem up3{h0:af}(ar:h0.low<=h0.next){b n c:Nat}{L:List LE}{A B j s:Int}(a0:0<=A)(bn:B<=n){Q:Exit->SS->Prop}
  (hQ:∀h' i,s<=i->bA h0 h' b n L->Part gM L A B i j->(i<=j->gM (gt L A) (gt L i))->Q (.exit 0) ⟨[(0,.slice (some ⟨b,0,none⟩) n c),(1,.int .i64 A),(4,.func (.func 51) #[] #[]),(12,.int .i64 i),(13,.int .i64 j)],32,[],h'⟩) :
  ∀(m:Nat) (i:Int) (h:af),(j+1-i).toNat<=m->s<=i->bA h0 h b n L->Part gM L A B i j->
   head 98 3 16 ⟨[(0,.slice (some ⟨b,0,none⟩) n c),(1,.int .i64 A),(4,.func (.func 51) #[] #[]),(12,.int .i64 i),(13,.int .i64 j)],16,[],h⟩ Q:=by
 intro m
 induction m with
 |zero=>
  intro i h hm hs t hp;refine hA.au Tryz.func98 mg (zc ?_);refine br (i<=j) (by rw[jL hA]) (fun q=>om) (fun q=>?_)<;>refine zc ?_;exact hQ _ i hs (t.more (aw hA _ _)) hp (fun w=>absurd w q)
 |succ m ih=>
  intro i h hm hs t hp;have gF:=t.gF;have p1:=hp.i0;have p2:=hp.j1;refine hA.au Tryz.func98 mg (zc ?_);refine br (i<=j) (by rw[jL hA]) (fun ci=>?_) (fun q=>?_)<;>refine zc ?_
  rotate_left
  ·exact hQ _ i hs (t.more (aw hA _ _)) hp (fun w=>absurd w q)
  obtain⟨h2,mo⟩:∃z,z=aH h 16:=⟨_,rfl⟩;have x2:Ext h h2:=by rw[mo];exact aw hA _ _
  have t2:=t.more x2;obtain⟨Hh,Hi,Hj,b2,g2,f2,r2⟩:=t2.read (i:=i) om om;obtain⟨sK,sL,sM,AW,Az,uw,nJ⟩:=t2.read (i:=A) om om;have q2:=aE hA r2;have FA:=aE hA nJ;rw[<-mo];have e1:arith .add .i64 i 1=i+1:=aG hA om om;refine zq ?_;refine fz hA (aC hA h2) (dH hA f2) (dH hA uw) (fun u wm hu x2a=>⟨_,rfl,?_⟩);have pA:=dK hA ar t2 x2a;refine zc ?_;generalize aB h2 wm=pB at *;refine br (u<0) (by rw[aA hA]) (fun cu=>?_) (fun cu=>?_)<;>refine zc ?_
  ·rw[hu]at cu
   rw[e1];exact ih (i+1) pB om om pA (hp.left ci (LL.le_of_lt (cT.1 cu)))
  ·rw[hu]at cu
   exact hQ pB i hs pA hp (fun _=>LL.not_lt.1 (fun w=>cu (cT.2 w)))
theorem Xv{h0:af}(ar:h0.low<=h0.next){b n c:Nat}{L:List LE}{A B i s:Int}(a0:0<=A)(bn:B<=n){Q:Exit->SS->Prop}
  (hQ:∀h' j,j<=s->bA h0 h' b n L->Part gM L A B i j->(i<=j->gM (gt L j) (gt L A)/\¬gM (gt L A) (gt L j))->Q (.exit 2) ⟨[(0,.slice (some ⟨b,0,none⟩) n c),(1,.int .i64 A),(4,.func (.func 51) #[] #[]),(12,.int .i64 i),(13,.int .i64 j)],49,[],h'⟩) :
  ∀(m:Nat) (j:Int) (h:af),(j+1-i).toNat<=m->j<=s->bA h0 h b n L->Part gM L A B i j->
   head 98 5 32 ⟨[(0,.slice (some ⟨b,0,none⟩) n c),(1,.int .i64 A),(4,.func (.func 51) #[] #[]),(12,.int .i64 i),(13,.int .i64 j)],32,[],h⟩ Q:=by
 intro m
 induction m with
 |zero=>
  intro j h hm hs t hp;refine hA.au Tryz.func98 mg (zc ?_);refine br (i<=j) (by rw[jL hA]) (fun q=>om) (fun q=>?_)<;>refine zc ?_;exact hQ _ j hs (t.more (aw hA _ _)) hp (fun w=>absurd w q)
 |succ m ih=>
  intro j h hm hs t hp;have gF:=t.gF;have p1:=hp.i0;have p2:=hp.j1;refine hA.au Tryz.func98 mg (zc ?_);refine br (i<=j) (by rw[jL hA]) (fun ci=>?_) (fun q=>?_)<;>refine zc ?_
  rotate_left
  ·exact hQ _ j hs (t.more (aw hA _ _)) hp (fun w=>absurd w q)
  obtain⟨h2,mo⟩:∃z,z=aH h 17:=⟨_,rfl⟩;have x2:Ext h h2:=by rw[mo];exact aw hA _ _
  have t2:=t.more x2;obtain⟨Hh,Hi,Hj,b2,g2,f2,r2⟩:=t2.read (i:=j) om om;obtain⟨sK,sL,sM,AW,Az,uw,nJ⟩:=t2.read (i:=A) om om;have q2:=aE hA r2;have FA:=aE hA nJ;rw[<-mo];have e1:arith .sub .i64 j 1=j-1:=bN hA om om;refine zq ?_;refine fz hA (aC hA h2) (dH hA f2) (dH hA uw) (fun u wm hu x2a=>⟨_,rfl,?_⟩);have pA:=dK hA ar t2 x2a;refine zc ?_;generalize aB h2 wm=pB at *;refine br (0<=u) (by rw[cB hA,aA hA];by_cases z:u<0<;>simp[z]<;>omega) (fun cu=>?_) (fun cu=>?_)<;>refine zc ?_
  ·rw[hu]at cu
   rw[e1];exact ih (j-1) pB om om pA (hp.right ci (LL.not_lt.1 (fun w=>by have:=cT.2 w;omega)))
  ·rw[hu]at cu
   have lt:=cT.1 (show fX (gt L j).q (gt L A).q<0 by omega);exact hQ pB j hs pA hp (fun _=>⟨LL.le_of_lt lt,LL.not_le.2 lt⟩)
theorem Xw{h0:af}(ar:h0.low<=h0.next){b n c:Nat}{L:List LE}{A B j s:Int}(a0:0<=A)(bn:B<=n){Q:Exit->SS->Prop}
  (hQ:∀h' i,s<=i->bA h0 h' b n L->Part gM L A B i j->(i<=j->gM (gt L A) (gt L i))->Q (.exit 6) ⟨[(0,.slice (some ⟨b,0,none⟩) n c),(1,.int .i64 A),(4,.func (.func 51) #[] #[]),(12,.int .i64 i),(13,.int .i64 j)],81,[],h'⟩) :
  ∀(m:Nat) (i:Int) (h:af),(j+1-i).toNat<=m->s<=i->bA h0 h b n L->Part gM L A B i j->
   head 98 13 65 ⟨[(0,.slice (some ⟨b,0,none⟩) n c),(1,.int .i64 A),(4,.func (.func 51) #[] #[]),(12,.int .i64 i),(13,.int .i64 j)],65,[],h⟩ Q:=by
 intro m
 induction m with
 |zero=>
  intro i h hm hs t hp;refine hA.au Tryz.func98 mg (zc ?_);refine br (i<=j) (by rw[jL hA]) (fun q=>om) (fun q=>?_)<;>refine zc ?_;exact hQ _ i hs (t.more (aw hA _ _)) hp (fun w=>absurd w q)
 |succ m ih=>
  intro i h hm hs t hp;have gF:=t.gF;have p1:=hp.i0;have p2:=hp.j1;refine hA.au Tryz.func98 mg (zc ?_);refine br (i<=j) (by rw[jL hA]) (fun ci=>?_) (fun q=>?_)<;>refine zc ?_
  rotate_left
  ·exact hQ _ i hs (t.more (aw hA _ _)) hp (fun w=>absurd w q)
  obtain⟨h2,mo⟩:∃z,z=aH h 16:=⟨_,rfl⟩;have x2:Ext h h2:=by rw[mo];exact aw hA _ _
  have t2:=t.more x2;obtain⟨Hh,Hi,Hj,b2,g2,f2,r2⟩:=t2.read (i:=i) om om;obtain⟨sK,sL,sM,AW,Az,uw,nJ⟩:=t2.read (i:=A) om om;have q2:=aE hA r2;have FA:=aE hA nJ;rw[<-mo];have e1:arith .add .i64 i 1=i+1:=aG hA om om;refine zq ?_;refine fz hA (aC hA h2) (dH hA f2) (dH hA uw) (fun u wm hu x2a=>⟨_,rfl,?_⟩);have pA:=dK hA ar t2 x2a;refine zc ?_;generalize aB h2 wm=pB at *;refine br (u<0) (by rw[aA hA]) (fun cu=>?_) (fun cu=>?_)<;>refine zc ?_
  ·rw[hu]at cu
   rw[e1];exact ih (i+1) pB om om pA (hp.left ci (LL.le_of_lt (cT.1 cu)))
  ·rw[hu]at cu
   exact hQ pB i hs pA hp (fun _=>LL.not_lt.1 (fun w=>cu (cT.2 w)))
theorem Od{h0:af}(ar:h0.low<=h0.next){b n c:Nat}{L:List LE}{A B i s:Int}(a0:0<=A)(bn:B<=n){Q:Exit->SS->Prop}
  (hQ:∀h' j,j<=s->bA h0 h' b n L->Part gM L A B i j->(i<=j->gM (gt L j) (gt L A)/\¬gM (gt L A) (gt L j))->Q (.exit 8) ⟨[(0,.slice (some ⟨b,0,none⟩) n c),(1,.int .i64 A),(4,.func (.func 51) #[] #[]),(12,.int .i64 i),(13,.int .i64 j)],98,[],h'⟩) :
  ∀(m:Nat) (j:Int) (h:af),(j+1-i).toNat<=m->j<=s->bA h0 h b n L->Part gM L A B i j->
   head 98 15 81 ⟨[(0,.slice (some ⟨b,0,none⟩) n c),(1,.int .i64 A),(4,.func (.func 51) #[] #[]),(12,.int .i64 i),(13,.int .i64 j)],81,[],h⟩ Q:=by
 intro m
 induction m with
 |zero=>
  intro j h hm hs t hp;refine hA.au Tryz.func98 mg (zc ?_);refine br (i<=j) (by rw[jL hA]) (fun q=>om) (fun q=>?_)<;>refine zc ?_;exact hQ _ j hs (t.more (aw hA _ _)) hp (fun w=>absurd w q)
 |succ m ih=>
  intro j h hm hs t hp;have gF:=t.gF;have p1:=hp.i0;have p2:=hp.j1;refine hA.au Tryz.func98 mg (zc ?_);refine br (i<=j) (by rw[jL hA]) (fun ci=>?_) (fun q=>?_)<;>refine zc ?_
  rotate_left
  ·exact hQ _ j hs (t.more (aw hA _ _)) hp (fun w=>absurd w q)
  obtain⟨h2,mo⟩:∃z,z=aH h 17:=⟨_,rfl⟩;have x2:Ext h h2:=by rw[mo];exact aw hA _ _
  have t2:=t.more x2;obtain⟨Hh,Hi,Hj,b2,g2,f2,r2⟩:=t2.read (i:=j) om om;obtain⟨sK,sL,sM,AW,Az,uw,nJ⟩:=t2.read (i:=A) om om;have q2:=aE hA r2;have FA:=aE hA nJ;rw[<-mo];have e1:arith .sub .i64 j 1=j-1:=bN hA om om;refine zq ?_;refine fz hA (aC hA h2) (dH hA f2) (dH hA uw) (fun u wm hu x2a=>⟨_,rfl,?_⟩);have pA:=dK hA ar t2 x2a;refine zc ?_;generalize aB h2 wm=pB at *;refine br (0<=u) (by rw[cB hA,aA hA];by_cases z:u<0<;>simp[z]<;>omega) (fun cu=>?_) (fun cu=>?_)<;>refine zc ?_
  ·rw[hu]at cu
   rw[e1];exact ih (j-1) pB om om pA (hp.right ci (LL.not_lt.1 (fun w=>by have:=cT.2 w;omega)))
  ·rw[hu]at cu
   have lt:=cT.1 (show fX (gt L j).q (gt L A).q<0 by omega);exact hQ pB j hs pA hp (fun _=>⟨LL.le_of_lt lt,LL.not_le.2 lt⟩)
theorem Kx{h0:af}(ar:h0.low<=h0.next){b n c:Nat}{L0:List LE}{A B:Int}(a0:0<=A)(bn:B<=n){Q:Exit->SS->Prop}
  (hQ:∀h' L i j,bA h0 h' b n L->aK A B L0 L->Part gM L A B i j->j<i->Q (.exit 4) ⟨[(0,.slice (some ⟨b,0,none⟩) n c),(1,.int .i64 A),(13,.int .i64 j)],98,[],h'⟩) :
  ∀(m:Nat) (i j:Int) (h:af) (L:List LE),(j+1-i).toNat<=m->bA h0 h b n L->aK A B L0 L->Part gM L A B i j->
   head 98 1013 65 ⟨[(0,.slice (some ⟨b,0,none⟩) n c),(1,.int .i64 A),(4,.func (.func 51) #[] #[]),(12,.int .i64 i),(13,.int .i64 j)],65,[],h⟩ Q:=by
 intro m
 induction m with
 |zero=>
  intro i j h L hm t hp hI;refine hA.au Tryz.func98 mg (zc ?_);refine Xw hA ar a0 bn (s:=i) (fun h1 i1 s1 t1 T3 w1=>?_) (j+1-i).toNat i h (Nat.le_refl _) (Int.le_refl _) t hI;refine zc ?_;refine Od hA ar a0 bn (s:=j) (fun h2 j2 s2 t2 Ky w2=>?_) (j+1-i1).toNat j h1 (Nat.le_refl _) (Int.le_refl _) t1 T3;refine zc ?_;refine br (j2<i1) (by rw[cS hA]) (fun _=>?_) (fun q=>om)<;>refine zc ?_;exact hQ h2 L i1 j2 t2 hp Ky om
 |succ m ih=>
  intro i j h L hm t hp hI;have gF:=t.gF;refine hA.au Tryz.func98 mg (zc ?_);refine Xw hA ar a0 bn (s:=i) (fun h1 i1 s1 t1 T3 w1=>?_) (j+1-i).toNat i h (Nat.le_refl _) (Int.le_refl _) t hI;refine zc ?_;refine Od hA ar a0 bn (s:=j) (fun h2 j2 s2 t2 Ky w2=>?_) (j+1-i1).toNat j h1 (Nat.le_refl _) (Int.le_refl _) t1 T3;refine zc ?_;refine br (j2<i1) (by rw[cS hA]) (fun q=>?_) (fun ci=>?_)<;>refine zc ?_
  ·exact hQ h2 L i1 j2 t2 hp Ky q
  have k1:=Ky.i0;have k2:=Ky.j1;obtain⟨v1,v2⟩:=w2 om;have v3:=w1 om;have ne:i1≠j2:=fun e=>v2 (by rw[<-e];exact v3)
  have e1:arith .add .i64 i1 1=i1+1:=aG hA om om;have e2:arith .sub .i64 j2 1=j2-1:=bN hA om om;obtain⟨i2,Ec⟩:∃z,z=i1+1:=⟨_,rfl⟩;obtain⟨j3,T4⟩:∃z,z=j2-1:=⟨_,rfl⟩;rw[<-Ec]at e1;rw[<-T4]at e2;obtain⟨h5,sN⟩:∃z,z=aH h2 16:=⟨_,rfl⟩;have x5:Ext h2 h5:=by rw[sN];exact aw hA _ _
  have t5:=t2.more x5;obtain⟨QC,QD,QF,b5,g5,f5,r5⟩:=t5.read (i:=i1) om om;obtain⟨CP,CQ,CS,QG,C4,O4,CT⟩:=t5.read (i:=j2) om om;have q5:=aE hA r5;have Lq:=aE hA CT;rw[<-sN];obtain⟨R6,C5,p5,R7,C6⟩:=de hA t5 (i:=i1) (j:=j2) om om om om g5 C4
  (refine zq ?_;repeat ((first|rw[e1]|rw[e2]);refine zq ?_))
  refine ih i2 j3 C5 _ om C6 (hp.trans (aK.swap L a0 (by have:=t.len;omega) om om om om)) ?_;rw[Ec,T4];exact Ky.swap a0 (by have:=t.len;omega) om v3 v1
theorem QH{h0 h:af}(ar:h0.low<=h0.next){b n c:Nat}{L:List LE}{A B p:Int}(a0:0<=A)(bn:B<=n)(pa:A<=p)(pb:p<B)(t:bA h0 h b n L){Q:Value->af->Prop}
  (hQ:∀h' L' m (r:Bool),bA h0 h' b n L'->aK A B L L'->A<=m->m<B->(∀p:Int,A<=p->p<m->gM (gt L' p) (gt L' m))->(∀p:Int,m<p->p<B->gM (gt L' m) (gt L' p))->Q (.tuple #[.int .i64 m,.bool r]) h') :
  call 98 [.slice (some ⟨b,0,none⟩) n c,.int .i64 A,.int .i64 B,.int .i64 p,.func (.func 51) #[] #[]] h Q:=by
 have df:=ar
 replace ar:=t.ext.aD ar
 have gF:=t.gF;have e1:arith .add .i64 A 1=A+1:=aG hA om om;have e2:arith .sub .i64 B 1=B-1:=bN hA om om;obtain⟨A1,UZ⟩:∃z,z=A+1:=⟨_,rfl⟩;obtain⟨B1,YR⟩:∃z,z=B-1:=⟨_,rfl⟩;rw[<-UZ]at e1;rw[<-YR]at e2;refine hA.aO Tryz.func98 mg (hA.alike _ _ _ rfl) ar (zc ?_);obtain⟨h2,mo⟩:∃z,z=aH h 16:=⟨_,rfl⟩;have x2:Ext h h2:=by rw[mo];exact aw hA _ _
 have t2:=t.more x2;obtain⟨Hh,Hi,Hj,b2,g2,f2,r2⟩:=t2.read (i:=A) om om;obtain⟨sK,sL,sM,AW,Az,uw,nJ⟩:=t2.read (i:=p) om om;have q2:=aE hA r2;have FA:=aE hA nJ;rw[<-mo];obtain⟨h2c,YQ,p2,Xt,Xu⟩:=de hA t2 (i:=A) (j:=p) om om om om g2 Az
 (refine zq ?_;repeat ((first|rw[e1]|rw[e2]);refine zq ?_))
 have s2:=aK.swap (a:=A) (b:=B) L (i:=A) (j:=p) a0 (by have:=t.len;omega) om om pa pb;generalize dG L A p=L2 at *;have hI:Part gM L2 A B A1 B1:=by rw[UZ,YR];exact .start L2 om
 refine up3 hA df a0 bn (s:=A1) (fun h3 i3 s3 t3 hI3 w3=>?_) (B1+1-A1).toNat A1 YQ (Nat.le_refl _) (Int.le_refl _) Xu hI;refine zc ?_;refine Xv hA df a0 bn (s:=B1) (fun h4 j4 s4 t4 Xx w4=>?_) (B1+1-i3).toNat B1 h3 (Nat.le_refl _) (Int.le_refl _) t3 hI3;refine zc ?_;have fin:∀(hh:af) (L':List LE) (i j:Int),bA h0 hh b n L'->aK A B L L'->Part gM L' A B i j->j<i->∀zU (r:Bool),bA h0 zU b n (dG L' j A)->Q (.tuple #[.int .i64 j,.bool r]) zU:=fun hh L' i j td hp hI c zU r td'=>by
  have k1:=hI.i0;have k2:=hI.j1;have k3:=hI.ij;obtain⟨f1,f2⟩:=hI.done a0 (by have:=td.len;omega) c;exact hQ zU _ j r td' (hp.trans (aK.swap L' a0 (by have:=td.len;omega) om om om om)) om om f1 f2
 have k1:=Xx.i0;have k2:=Xx.j1;have k3:=Xx.ij;refine br (j4<i3) (by rw[cS hA]) (fun q=>?_) (fun ci=>?_)<;>refine zc ?_
 ·have T5:=fin h4 L2 i3 j4 t4 s2 Xx q
  have aaI:=df;clear ar;have ar:=df;obtain⟨h6,YS⟩:∃z,z=aH h4 16:=⟨_,rfl⟩;have x6:Ext h4 h6:=by rw[YS];exact aw hA _ _
  have t6:=t4.more x6;obtain⟨a6x,a6y,a6z,b6,g6,f6,r6⟩:=t6.read (i:=j4) om om;obtain⟨a6'x,a6'y,a6'z,b6',g6',f6',r6'⟩:=t6.read (i:=A) om om;have q6:=aE hA r6;have q6':=aE hA r6';rw[<-YS];obtain⟨h6c,h6d,p6,p6',t6d⟩:=de hA t6 (i:=j4) (j:=A) om om om om g6 g6';refine zq ?_;exact T5 _ _ t6d
 obtain⟨v1,v2⟩:=w4 om;have v3:=w3 om;have ne:i3≠j4:=fun e=>v2 (by rw[<-e];exact v3)
 have e3:arith .add .i64 i3 1=i3+1:=aG hA om om;have e4:arith .sub .i64 j4 1=j4-1:=bN hA om om;obtain⟨i5,hi5⟩:∃z,z=i3+1:=⟨_,rfl⟩;obtain⟨j5,hj5⟩:∃z,z=j4-1:=⟨_,rfl⟩;rw[<-hi5]at e3;rw[<-hj5]at e4;obtain⟨h7,hh7⟩:∃z,z=aH h4 16:=⟨_,rfl⟩;have x7:Ext h4 h7:=by rw[hh7];exact aw hA _ _
 have t7:=t4.more x7;obtain⟨a7x,a7y,a7z,b7,g7,f7,r7⟩:=t7.read (i:=i3) om om;obtain⟨a7'x,a7'y,a7'z,b7',g7',f7',r7'⟩:=t7.read (i:=j4) om om;have q7:=aE hA r7;have q7':=aE hA r7';rw[<-hh7];obtain⟨h7c,h7d,p7,p7',t7d⟩:=de hA t7 (i:=i3) (j:=j4) om om om om g7 g7'
 (refine zq ?_;repeat ((first|rw[e3]|rw[e4]);refine zq ?_))
 have hI7:=Xx.swap a0 (by have:=t4.len;omega) om v3 v1;rw[<-hi5,<-hj5]at hI7;refine Kx hA df (L0:=L) a0 bn (fun h8 L8 i8 j8 t8 hp8 YT c8=>?_) (j5+1-i5).toNat i5 j5 h7d _ (Nat.le_refl _) t7d (s2.trans (aK.swap L2 a0 (by have:=t4.len;omega) om om om om)) hI7;have m1:=YT.i0;have m2:=YT.j1;have m3:=YT.ij;have T5:=fin h8 L8 i8 j8 t8 hp8 YT c8;refine zc ?_;obtain⟨h9,iH⟩:∃z,z=aH h8 16:=⟨_,rfl⟩;have x9:Ext h8 h9:=by rw[iH];exact aw hA _ _
 have t9:=t8.more x9;obtain⟨a9x,a9y,a9z,b9,g9,f9,r9⟩:=t9.read (i:=j8) om om;obtain⟨a9'x,a9'y,a9'z,b9',g9',f9',r9'⟩:=t9.read (i:=A) om om;have q9:=aE hA r9;have q9':=aE hA r9';rw[<-iH];obtain⟨h9c,h9d,p9,p9',t9d⟩:=de hA t9 (i:=j8) (j:=A) om om om om g9 g9';refine zq ?_;exact T5 _ _ t9d
theorem R8{h0:af}(ar:h0.low<=h0.next){b n c:Nat}{L:List LE}{A B j s:Int}(a0:0<=A)(bn:B<=n){Q:Exit->SS->Prop}
  (hQ:∀h' i,s<=i->bA h0 h' b n L->mm gM L A B i j->(i<=j->¬gM (gt L i) (gt L A))->Q (.exit 2) ⟨[(0,.slice (some ⟨b,0,none⟩) n c),(1,.int .i64 A),(4,.func (.func 51) #[] #[]),(11,.int .i64 i),(12,.int .i64 j)],33,[],h'⟩) :
  ∀(m:Nat) (i:Int) (h:af),(j+1-i).toNat<=m->s<=i->bA h0 h b n L->mm gM L A B i j->
   head 97 3 16 ⟨[(0,.slice (some ⟨b,0,none⟩) n c),(1,.int .i64 A),(4,.func (.func 51) #[] #[]),(11,.int .i64 i),(12,.int .i64 j)],16,[],h⟩ Q:=by
 intro m
 induction m with
 |zero=>
  intro i h hm hs t hp;refine hA.au Tryz.func97 sz (zc ?_);refine br (i<=j) (by rw[jL hA]) (fun q=>om) (fun q=>?_)<;>refine zc ?_;exact hQ _ i hs (t.more (aw hA _ _)) hp (fun w=>absurd w q)
 |succ m ih=>
  intro i h hm hs t hp;have gF:=t.gF;have p1:=hp.i0;have p2:=hp.j1;refine hA.au Tryz.func97 sz (zc ?_);refine br (i<=j) (by rw[jL hA]) (fun ci=>?_) (fun q=>?_)<;>refine zc ?_
  rotate_left
  ·exact hQ _ i hs (t.more (aw hA _ _)) hp (fun w=>absurd w q)
  obtain⟨h2,mo⟩:∃z,z=aH h 17:=⟨_,rfl⟩;have x2:Ext h h2:=by rw[mo];exact aw hA _ _
  have t2:=t.more x2;obtain⟨Hh,Hi,Hj,b2,g2,f2,r2⟩:=t2.read (i:=A) om om;obtain⟨sK,sL,sM,AW,Az,uw,nJ⟩:=t2.read (i:=i) om om;have q2:=aE hA r2;have FA:=aE hA nJ;rw[<-mo];have e1:arith .add .i64 i 1=i+1:=aG hA om om;refine zq ?_;refine fz hA (aC hA h2) (dH hA f2) (dH hA uw) (fun u wm hu x2a=>⟨_,rfl,?_⟩);have pA:=dK hA ar t2 x2a;refine zc ?_;generalize aB h2 wm=pB at *;refine br (0<=u) (by rw[cB hA,aA hA];by_cases z:u<0<;>simp[z]<;>omega) (fun cu=>?_) (fun cu=>?_)<;>refine zc ?_
  ·rw[hu]at cu
   rw[e1];exact ih (i+1) pB om om pA (hp.left ci (LL.not_lt.1 (fun w=>by have:=cT.2 w;omega)))
  ·rw[hu]at cu
   exact hQ pB i hs pA hp (fun _=>LL.not_le.2 (cT.1 (show fX (gt L A).q (gt L i).q<0 by omega)))
theorem IQ{h0:af}(ar:h0.low<=h0.next){b n c:Nat}{L:List LE}{A B i s:Int}(a0:0<=A)(bn:B<=n){Q:Exit->SS->Prop}
  (hQ:∀h' j,j<=s->bA h0 h' b n L->mm gM L A B i j->(i<=j->gM (gt L j) (gt L A))->Q (.exit 4) ⟨[(0,.slice (some ⟨b,0,none⟩) n c),(1,.int .i64 A),(4,.func (.func 51) #[] #[]),(11,.int .i64 i),(12,.int .i64 j)],49,[],h'⟩) :
  ∀(m:Nat) (j:Int) (h:af),(j+1-i).toNat<=m->j<=s->bA h0 h b n L->mm gM L A B i j->
   head 97 5 33 ⟨[(0,.slice (some ⟨b,0,none⟩) n c),(1,.int .i64 A),(4,.func (.func 51) #[] #[]),(11,.int .i64 i),(12,.int .i64 j)],33,[],h⟩ Q:=by
 intro m
 induction m with
 |zero=>
  intro j h hm hs t hp;refine hA.au Tryz.func97 sz (zc ?_);refine br (i<=j) (by rw[jL hA]) (fun q=>om) (fun q=>?_)<;>refine zc ?_;exact hQ _ j hs (t.more (aw hA _ _)) hp (fun w=>absurd w q)
 |succ m ih=>
  intro j h hm hs t hp;have gF:=t.gF;have p1:=hp.i0;have p2:=hp.j1;refine hA.au Tryz.func97 sz (zc ?_);refine br (i<=j) (by rw[jL hA]) (fun ci=>?_) (fun q=>?_)<;>refine zc ?_
  rotate_left
  ·exact hQ _ j hs (t.more (aw hA _ _)) hp (fun w=>absurd w q)
  obtain⟨h2,mo⟩:∃z,z=aH h 16:=⟨_,rfl⟩;have x2:Ext h h2:=by rw[mo];exact aw hA _ _
  have t2:=t.more x2;obtain⟨Hh,Hi,Hj,b2,g2,f2,r2⟩:=t2.read (i:=A) om om;obtain⟨sK,sL,sM,AW,Az,uw,nJ⟩:=t2.read (i:=j) om om;have q2:=aE hA r2;have FA:=aE hA nJ;rw[<-mo];have e1:arith .sub .i64 j 1=j-1:=bN hA om om;refine zq ?_;refine fz hA (aC hA h2) (dH hA f2) (dH hA uw) (fun u wm hu x2a=>⟨_,rfl,?_⟩);have pA:=dK hA ar t2 x2a;refine zc ?_;generalize aB h2 wm=pB at *;refine br (u<0) (by rw[aA hA]) (fun cu=>?_) (fun cu=>?_)<;>refine zc ?_
  ·rw[e1]
   exact ih (j-1) pB om om pA (hp.right ci)
  ·rw[hu]at cu
   exact hQ pB j hs pA hp (fun _=>LL.not_lt.1 (fun w=>cu (cT.2 w)))
theorem QI{h0:af}(ar:h0.low<=h0.next){b n c:Nat}{L0:List LE}{A B:Int}(a0:0<=A)(bn:B<=n){v:LE}{Q:Exit->SS->Prop}
  (hQ:∀h' L i e,bA h0 h' b n L->aK A B L0 L->A<i->i<=B->(∀p:Int,A<=p->p<i->gM (gt L p) v)->Q (.exit 0) ⟨(11,.int .i64 i) :: e,49,[],h'⟩) :
  ∀(m:Nat) (i j:Int) (h:af) (L:List LE),(j+1-i).toNat<=m->bA h0 h b n L->aK A B L0 L->mm gM L A B i j->gt L A=v->
   head 97 1003 16 ⟨[(0,.slice (some ⟨b,0,none⟩) n c),(1,.int .i64 A),(4,.func (.func 51) #[] #[]),(11,.int .i64 i),(12,.int .i64 j)],16,[],h⟩ Q:=by
 intro m;have fin:∀(h:af) (L:List LE) (i j:Int),bA h0 h b n L->aK A B L0 L->mm gM L A B i j->gt L A=v->j<i->Q (.exit 0) ⟨[(11,.int .i64 i)],49,[],h⟩:=fun h L i j t hp hI hv c=>by
  have k1:=hI.i0;have k2:=hI.j1;have k3:=hI.ij;refine hQ h L i _ t hp k1 om (fun p p0 p1=>?_);by_cases e:p=A
  ·rw[e,hv];exact dR.refl _
  ·rw[<-hv];exact hI.low p om p1
 induction m with
 |zero=>
  intro i j h L hm t hp hI hv;refine hA.au Tryz.func97 sz (zc ?_);refine R8 hA ar a0 bn (s:=i) (fun h1 i1 s1 t1 T3 w1=>?_) (j+1-i).toNat i h (Nat.le_refl _) (Int.le_refl _) t hI;refine zc ?_;refine IQ hA ar a0 bn (s:=j) (fun h2 j2 s2 t2 Ky w2=>?_) (j+1-i1).toNat j h1 (Nat.le_refl _) (Int.le_refl _) t1 T3;refine zc ?_;refine br (j2<i1) (by rw[cS hA]) (fun _=>?_) (fun q=>om)<;>refine zc ?_;exact fin h2 L i1 j2 t2 hp Ky hv om
 |succ m ih=>
  intro i j h L hm t hp hI hv;have gF:=t.gF;refine hA.au Tryz.func97 sz (zc ?_);refine R8 hA ar a0 bn (s:=i) (fun h1 i1 s1 t1 T3 w1=>?_) (j+1-i).toNat i h (Nat.le_refl _) (Int.le_refl _) t hI;refine zc ?_;refine IQ hA ar a0 bn (s:=j) (fun h2 j2 s2 t2 Ky w2=>?_) (j+1-i1).toNat j h1 (Nat.le_refl _) (Int.le_refl _) t1 T3;refine zc ?_;refine br (j2<i1) (by rw[cS hA]) (fun q=>?_) (fun ci=>?_)<;>refine zc ?_
  ·exact fin h2 L i1 j2 t2 hp Ky hv q
  have k1:=Ky.i0;have k2:=Ky.j1;have v2:=w2 om;have v3:=w1 om;have ne:i1≠j2:=fun e=>v3 (by rw[e];exact v2)
  have e1:arith .add .i64 i1 1=i1+1:=aG hA om om;have e2:arith .sub .i64 j2 1=j2-1:=bN hA om om;obtain⟨i2,Ec⟩:∃z,z=i1+1:=⟨_,rfl⟩;obtain⟨j3,T4⟩:∃z,z=j2-1:=⟨_,rfl⟩;rw[<-Ec]at e1;rw[<-T4]at e2;obtain⟨h5,sN⟩:∃z,z=aH h2 16:=⟨_,rfl⟩;have x5:Ext h2 h5:=by rw[sN];exact aw hA _ _
  have t5:=t2.more x5;obtain⟨QC,QD,QF,b5,g5,f5,r5⟩:=t5.read (i:=i1) om om;obtain⟨CP,CQ,CS,QG,C4,O4,CT⟩:=t5.read (i:=j2) om om;have q5:=aE hA r5;have Lq:=aE hA CT;rw[<-sN];obtain⟨R6,C5,p5,R7,C6⟩:=de hA t5 (i:=i1) (j:=j2) om om om om g5 C4
  (refine zq ?_;repeat ((first|rw[e1]|rw[e2]);refine zq ?_))
  refine ih i2 j3 C5 _ om C6 (hp.trans (aK.swap L a0 (by have:=t.len;omega) om om om om)) ?_ ?_
  ·rw[Ec,T4]
   exact Ky.swap a0 (by have:=t.len;omega) om v2
  ·rw[jG L om (by have:=t.len;omega) om (by have:=t.len;omega) a0,if_neg om,if_neg om,hv]
theorem Oe{h0 h:af}(ar:h0.low<=h0.next){b n c:Nat}{L:List LE}{A B p:Int}(a0:0<=A)(bn:B<=n)(pa:A<=p)(pb:p<B)(t:bA h0 h b n L){Q:Value->af->Prop}
  (hQ:∀h' L' m,bA h0 h' b n L'->aK A B L L'->A<m->m<=B->(∀k:Int,A<=k->k<m->gM (gt L' k) (gt L p))->Q (.int .i64 m) h') :
  call 97 [.slice (some ⟨b,0,none⟩) n c,.int .i64 A,.int .i64 B,.int .i64 p,.func (.func 51) #[] #[]] h Q:=by
 have df:=ar
 replace ar:=t.ext.aD ar
 have gF:=t.gF;have e1:arith .add .i64 A 1=A+1:=aG hA om om;have e2:arith .sub .i64 B 1=B-1:=bN hA om om;obtain⟨A1,UZ⟩:∃z,z=A+1:=⟨_,rfl⟩;obtain⟨B1,YR⟩:∃z,z=B-1:=⟨_,rfl⟩;rw[<-UZ]at e1;rw[<-YR]at e2;refine hA.aO Tryz.func97 sz (hA.alike _ _ _ rfl) ar (zc ?_);obtain⟨h2,mo⟩:∃z,z=aH h 16:=⟨_,rfl⟩;have x2:Ext h h2:=by rw[mo];exact aw hA _ _
 have t2:=t.more x2;obtain⟨Hh,Hi,Hj,b2,g2,f2,r2⟩:=t2.read (i:=A) om om;obtain⟨sK,sL,sM,AW,Az,uw,nJ⟩:=t2.read (i:=p) om om;have q2:=aE hA r2;have FA:=aE hA nJ;rw[<-mo];obtain⟨h2c,YQ,p2,Xt,Xu⟩:=de hA t2 (i:=A) (j:=p) om om om om g2 Az
 (refine zq ?_;repeat ((first|rw[e1]|rw[e2]);refine zq ?_))
 have s2:=aK.swap (a:=A) (b:=B) L (i:=A) (j:=p) a0 (by have:=t.len;omega) om om pa pb;have hv:gt (dG L A p) A=gt L p:=by
  rw[jG L a0 (by have:=t.len;omega) om (by have:=t.len;omega) a0];by_cases e:A=p
  ·rw[if_pos e,e]
  ·rw[if_neg e,if_pos rfl]
 refine QI hA df (L0:=L) a0 bn (v:=gt L p) (fun h' L' i e t' hp i0 i1 hl=>?_) (B1+1-A1).toNat A1 B1 YQ _ (Nat.le_refl _) Xu s2 ⟨om,om,om,fun p p0 p1=>om⟩ hv;refine zc ?_;exact hQ h' L' i t' hp i0 i1 hl
theorem QJ{h0 h h':af}(hl:h.low<=h.next){b sb:Nat}{v:Value}(t:wW h0 h b sb v)(x:Ext (fresh h) h'):wW h0 (aB h h') b sb v:=t.more (bW hA hl (.refl h) x)
theorem vf{h0 h:af}(ar:h0.low<=h0.next){b n c sb:Nat}{L:List LE}{i j w:Int}(i0:0<=i)(i1:i<n)(j0:0<=j)(j1:j<n)(t:bA h0 h b n L)(s:wW h0 h b sb (.int .i64 w)){Q:Value->af->Prop}
  (hQ:∀h' r q w',bA h0 h' b n L->wW h0 h' b sb (.int .i64 w')->((r=i/\q=j)\/(r=j/\q=i))->Q (.tuple #[.int .i64 r,.int .i64 q]) h'):call 117 [.slice (some ⟨b,0,none⟩) n c,.int .i64 i,.int .i64 j,.pointer (some ⟨sb,0,none⟩),.func (.func 51) #[] #[]] h Q:=by
 have df:=ar
 replace ar:=t.ext.aD ar
 have gF:=t.gF;refine hA.aO Tryz.func117 x117.2 (hA.alike _ _ _ rfl) ar (zc ?_);obtain⟨h2,mo⟩:∃z,z=aH h 11:=⟨_,rfl⟩;have x2:Ext h h2:=by rw[mo];exact aw hA _ _
 have t2:=t.more x2;obtain⟨Hh,Hi,Hj,b2,g2,f2,r2⟩:=t2.read (i:=j) om om;obtain⟨sK,sL,sM,AW,Az,uw,nJ⟩:=t2.read (i:=i) om om;have q2:=aE hA r2;have FA:=aE hA nJ;rw[<-mo];have s2:=s.more x2;have l2:=t2.ext.aD df;have ar:=df;refine zq ?_;refine fz hA (aC hA h2) (dH hA f2) (dH hA uw) (fun u wm hu x2a=>⟨_,rfl,?_⟩);have pA:=dK hA ar t2 x2a;refine zc ?_;have s2b:=QJ hA l2 s2 x2a;generalize aB h2 wm=pB at *;refine br (u<0) (by rw[aA hA]) (fun cu=>?_) (fun cu=>?_)<;>refine zc ?_
 rotate_left
 ·exact hQ pB i j w pA s2b (.inl ⟨rfl,rfl⟩)
 have r5:rd pB sb 0 1 [.int .i64 w]:=jf hA (s2b.own.aN (o:=0) (n:=1) (by simp));obtain⟨h6,p6,s6,t6⟩:=s2b.put pA (.int .i64 (arith .add .i64 w 1));have p7:wr pB sb 0 [.int .i64 (arith .add .i64 w 1)] h6:=kP hA p6;refine zq ?_;exact hQ h6 j i _ t6 s6 (.inr ⟨rfl,rfl⟩)
theorem vg{h0 h:af}(ar:h0.low<=h0.next){b n c sb:Nat}{L:List LE}{i j k w:Int}(i0:0<=i)(i1:i<n)(j0:0<=j)(j1:j<n)(k0:0<=k)(k1:k<n)(t:bA h0 h b n L)(s:wW h0 h b sb (.int .i64 w)){Q:Value->af->Prop}
  (hQ:∀h' r w',bA h0 h' b n L->wW h0 h' b sb (.int .i64 w')->(r=i\/r=j\/r=k)->Q (.int .i64 r) h'):call 114 [.slice (some ⟨b,0,none⟩) n c,.int .i64 i,.int .i64 j,.int .i64 k,.pointer (some ⟨sb,0,none⟩),.func (.func 51) #[] #[]] h Q:=by
 have df:=ar
 replace ar:=t.ext.aD ar
 refine hA.aO Tryz.func114 x114.2 (hA.alike _ _ _ rfl) ar (zc ?_);refine vf hA df i0 i1 j0 j1 t s (fun h1 a1 b1 w1 t1 s1 q1=>⟨_,_,rfl,?_⟩);refine zc ?_;refine vf hA df (i:=b1) (j:=k) om om k0 k1 t1 s1 (fun h2 a2 b2 w2 t2 s2 q2=>⟨_,_,rfl,?_⟩);refine zc ?_;refine vf hA df (i:=a1) (j:=a2) om om om om t2 s2 (fun h3 a3 b3 w3 t3 s3 q3=>⟨_,_,rfl,?_⟩);refine zc ?_;exact hQ h3 b3 w3 t3 s3 om
theorem qK{h0 h:af}(ar:h0.low<=h0.next){b n c sb:Nat}{L:List LE}{i w:Int}(i0:0<i)(i1:i+1<n)(t:bA h0 h b n L)(s:wW h0 h b sb (.int .i64 w)){Q:Value->af->Prop}
  (hQ:∀h' r w',bA h0 h' b n L->wW h0 h' b sb (.int .i64 w')->(i-1<=r/\r<=i+1)->Q (.int .i64 r) h'):call 113 [.slice (some ⟨b,0,none⟩) n c,.int .i64 i,.pointer (some ⟨sb,0,none⟩),.func (.func 51) #[] #[]] h Q:=by
 have df:=ar
 replace ar:=t.ext.aD ar
 have gF:=t.gF;refine hA.aO Tryz.func113 x113.2 (hA.alike _ _ _ rfl) ar (zc ?_);rw[bN hA om om,aG hA om om];refine vg hA df om om om om om om t s (fun h1 r w1 t1 s1 q1=>⟨_,rfl,?_⟩);refine zc ?_;exact hQ h1 r w1 t1 s1 om
theorem Of{h0 h:af}(ar:h0.low<=h0.next){b n c:Nat}{L:List LE}{A B:Int}(a0:0<=A)(ab:A+12<B)(bn:B<=n)(t:bA h0 h b n L){Q:Value->af->Prop}
  (hQ:∀h' p k,bA h0 h' b n L->A<=p->p<B->Q (.tuple #[.int .i64 p,.int .i64 k]) h'):call 94 [.slice (some ⟨b,0,none⟩) n c,.int .i64 A,.int .i64 B,.func (.func 51) #[] #[]] h Q:=by
 have df:=ar
 replace ar:=t.ext.aD ar
 have gF:=t.gF;obtain⟨l,hl⟩:∃z,z=B-A:=⟨_,rfl⟩;have e1:arith .sub .i64 B A=l:=by rw[hl];exact bN hA om om
 have e2:arith .quo .i64 l 4=l / 4:=tF hA om om om;obtain⟨q,hq⟩:∃z,z=l / 4:=⟨_,rfl⟩;rw[<-hq]at e2;have e3:arith .mul .i64 q 1=q:=by rw[jg hA om om];omega
 obtain⟨q2,C3⟩:∃z,z=q*2:=⟨_,rfl⟩;have e4:arith .mul .i64 q 2=q2:=by rw[C3];exact jg hA om om
 obtain⟨q3,hq3⟩:∃z,z=q*3:=⟨_,rfl⟩;have e5:arith .mul .i64 q 3=q3:=by rw[hq3];exact jg hA om om
 obtain⟨i,hi⟩:∃z,z=A+q:=⟨_,rfl⟩;have e6:arith .add .i64 A q=i:=by rw[hi];exact aG hA om om
 obtain⟨j,hj⟩:∃z,z=A+q2:=⟨_,rfl⟩;have e7:arith .add .i64 A q2=j:=by rw[hj];exact aG hA om om
 obtain⟨k,hk⟩:∃z,z=A+q3:=⟨_,rfl⟩;have e8:arith .add .i64 A q3=k:=by rw[hk];exact aG hA om om
 refine hA.aO Tryz.func94 x94.2 (hA.alike _ _ _ rfl) ar (zc ?_);rw[cX hA,dy hA];have x1:Ext h (h.push 1 [Value.int .i64 0]):=.push _ _ _;have o1:=ct.push h 1 [Value.int .i64 0];have n1:(h.push 1 [Value.int .i64 0]).next=h.next+1:=rfl;generalize h.push 1 [Value.int .i64 0]=h1 at *;obtain⟨sb,Vm⟩:∃z,z=h.next:=⟨_,rfl⟩;rw[<-Vm]at o1 ⊢;have t1:=t.more x1;have s1:wW h0 h1 b sb (.int .i64 0):=⟨o1,om,by have:=t.ext.next;omega,by have:=t.lt;omega⟩
 (refine zq ?_;repeat ((first|rw[e1]|rw[e2]|rw[e3]|rw[e6]|rw[e4]|rw[e7]|rw[e5]|rw[e8]);refine zq ?_))
 refine br (8<=l) (by rw[bX hA]) (fun _=>?_) (fun z=>om)<;>refine zc ?_;have tail:∀(h5:af) (r w5:Int),bA h0 h5 b n L->wW h0 h5 b sb (.int .i64 w5)->A<=r->r<B->rd h5 sb 0 1 [.int .i64 w5]:=fun h5 r w5 t5 s5 _ _=>jf hA (s5.own.aN (o:=0) (n:=1) (by simp))
 refine br (50<=l) (by rw[bX hA]) (fun c50=>?_) (fun c50=>?_)<;>refine zc ?_
 ·refine qK hA df (i:=i) om om t1 s1 (fun h2 i2 w2 t2 s2 m2=>⟨_,rfl,?_⟩)
  refine zc ?_;refine qK hA df (i:=j) om om t2 s2 (fun h3 j3 w3 t3 s3 m3=>⟨_,rfl,?_⟩);refine zc ?_;refine qK hA df (i:=k) om om t3 s3 (fun h4 k4 w4 t4 s4 m4=>⟨_,rfl,?_⟩);refine zc ?_;refine vg hA df (i:=i2) (j:=j3) (k:=k4) om om om om om om t4 s4 (fun h5 r w5 t5 s5 m5=>⟨_,rfl,?_⟩);have r5:=tail h5 r w5 t5 s5 om om;refine zq ?_;refine br (w5=0) (by rw[cY hA]) (fun _=>?_) (fun _=>?_)<;>refine zc ?_
  ·exact hQ h5 r _ t5 om om
  refine br (w5=12) (by rw[cY hA]) (fun _=>?_) (fun _=>?_)<;>refine zc ?_
  ·exact hQ h5 r _ t5 om om
  ·exact hQ h5 r _ t5 om om
 ·refine vg hA df (i:=i) (j:=j) (k:=k) om om om om om om t1 s1 (fun h5 r w5 t5 s5 m5=>⟨_,rfl,?_⟩)
  have r5:=tail h5 r w5 t5 s5 om om;refine zq ?_;refine br (w5=0) (by rw[cY hA]) (fun _=>?_) (fun _=>?_)<;>refine zc ?_
  ·exact hQ h5 r _ t5 om om
  refine br (w5=12) (by rw[cY hA]) (fun _=>?_) (fun _=>?_)<;>refine zc ?_
  ·exact hQ h5 r _ t5 om om
  ·exact hQ h5 r _ t5 om om
theorem Og{h0:af}(ar:h0.low<=h0.next){b n c:Nat}{L0:List LE}{A B:Int}(a0:0<=A)(bn:B<=n){Q:Exit->SS->Prop}
  (hQ:∀h' L e kn,bA h0 h' b n L->aK A B L0 L->Q (.exit 0) ⟨e,kn,[],h'⟩) :
  ∀(m:Nat) (i j:Int) (h:af) (L:List LE),(j-i).toNat<=m->A<=i->j<B->bA h0 h b n L->aK A B L0 L->
   head 95 2 0 ⟨[(0,.slice (some ⟨b,0,none⟩) n c),(8,.int .i64 i),(9,.int .i64 j)],0,[],h⟩ Q:=by
 intro m
 induction m with
 |zero=>
  intro i j h L hm i0 j1 t hp;refine hA.au Tryz.func95 x95.2 (zc ?_);refine br (i<j) (by rw[aA hA]) (fun q=>om) (fun _=>?_)<;>refine zc ?_;exact hQ h L _ _ t hp
 |succ m ih=>
  intro i j h L hm i0 j1 t hp;have gF:=t.gF;refine hA.au Tryz.func95 x95.2 (zc ?_);refine br (i<j) (by rw[aA hA]) (fun ci=>?_) (fun _=>?_)<;>refine zc ?_
  rotate_left
  ·exact hQ h L _ _ t hp
  have e1:arith .add .i64 i 1=i+1:=aG hA om om;have e2:arith .sub .i64 j 1=j-1:=bN hA om om;obtain⟨i2,Ec⟩:∃z,z=i+1:=⟨_,rfl⟩;obtain⟨j3,T4⟩:∃z,z=j-1:=⟨_,rfl⟩;rw[<-Ec]at e1;rw[<-T4]at e2;obtain⟨h5,sN⟩:∃z,z=aH h 16:=⟨_,rfl⟩;have x5:Ext h h5:=by rw[sN];exact aw hA _ _
  have t5:=t.more x5;obtain⟨QC,QD,QF,b5,g5,f5,r5⟩:=t5.read (i:=i) om om;obtain⟨CP,CQ,CS,QG,C4,O4,CT⟩:=t5.read (i:=j) om om;have q5:=aE hA r5;have Lq:=aE hA CT;rw[<-sN];obtain⟨R6,C5,p5,R7,C6⟩:=de hA t5 (i:=i) (j:=j) om om om om g5 C4
  (refine zq ?_;repeat ((first|rw[e1]|rw[e2]);refine zq ?_))
  exact ih i2 j3 C5 _ om om om C6 (hp.trans (aK.swap L a0 (by have:=t.len;omega) om om om om))
theorem T6{h0 h:af}(ar:h0.low<=h0.next){b n c:Nat}{L:List LE}{A B:Int}(a0:0<=A)(ab:A<=B)(bn:B<=n)(t:bA h0 h b n L){Q:Value->af->Prop}
  (hQ:∀h' L',bA h0 h' b n L'->aK A B L L'->Q (.tuple #[]) h'):call 95 [.slice (some ⟨b,0,none⟩) n c,.int .i64 A,.int .i64 B,.func (.func 51) #[] #[]] h Q:=by
 have df:=ar
 replace ar:=t.ext.aD ar
 have gF:=t.gF;refine hA.aO Tryz.func95 x95.2 (hA.alike _ _ _ rfl) ar (zc ?_);rw[bN hA om om];refine Og hA df (L0:=L) a0 bn (fun h' L' e kn t' hp=>?_) (B-1-A).toNat A (B-1) h L (Nat.le_refl _) om om t (.refl _ _ _);refine zc ?_;exact hQ h' L' t' hp
