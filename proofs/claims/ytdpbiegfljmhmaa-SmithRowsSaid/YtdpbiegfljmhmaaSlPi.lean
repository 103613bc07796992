import Derived.Test.YtdpbiegfljmhmaaSlH
set_option linter.unusedSimpArgs false
set_option linter.unusedVariables false
namespace Go.Proofs.Ytdpbiegfljmhmaa
open Go.cY
set_option maxRecDepth 100000
structure mo{α:Type}[Inhabited α](le:α->α->Prop)(L:List α)(a b i j:Int):Prop where
 i0:a<i
 j1:j<b
 ij:i<=j+1
 low:∀p:Int,a<p->p<i->le (gt L p) (gt L a)
theorem mo.left{α:Type}[Inhabited α]{le:α->α->Prop}{L:List α}{a b i j:Int}(h:mo le L a b i j)(c:i<=j)(w:le (gt L i) (gt L a)):mo le L a b (i+1) j:=
 ⟨by have:=h.i0;omega,h.j1,om,fun p p0 p1=>by
  by_cases e:p=i
  ·rw[e];exact w
  ·exact h.low p p0 om⟩
theorem mo.right{α:Type}[Inhabited α]{le:α->α->Prop}{L:List α}{a b i j:Int}(h:mo le L a b i j)(c:i<=j):mo le L a b i (j-1):=⟨h.i0,by have:=h.j1;omega,om,h.low⟩
theorem mo.swap{α:Type}[Inhabited α]{le:α->α->Prop}{L:List α}{a b i j:Int}(a0:0<=a)(hb:b<=L.length)(h:mo le L a b i j)(c:i<j)(w:le (gt L j) (gt L a)):mo le (dJ L i j) a b (i+1) (j-1):=by
 have hi:=h.i0;have hj:=h.j1;have g:∀k:Int,0<=k->gt (dJ L i j) k=if k=j then gt L i else if k=i then gt L j else gt L k:=fun k k0=>jD L om om om om k0
 refine⟨om,om,om,fun p p0 p1=>?_⟩;rw[g p om,g a a0,if_neg (show ¬p=j by omega),if_neg (show ¬a=j by omega),if_neg (show ¬a=i by omega)];by_cases e:p=i
 ·rw[if_pos e];exact w
 ·rw[if_neg e];exact h.low p p0 om
structure xE(h0 h:af)(b sb:Nat)(v:Value):Prop where
 own:bW h sb 1 [v]
 lt:sb<h.next
 cE:h0.next<=sb
 ne:sb≠b
theorem xE.more{h0 h h':af}{b sb:Nat}{v:Value}(t:xE h0 h b sb v)(e:Ext h h'):xE h0 h' b sb v:=⟨t.own.ext e t.lt,Nat.lt_of_lt_of_le t.lt e.next,t.cE,t.ne⟩
theorem xE.put{h0 h:af}{b sb n:Nat}{v:Value}{L:List LE}(t:xE h0 h b sb v)(d:bB h0 h b n L)(w:Value):∃h',h.write sb 0 [w]=some h'/\xE h0 h' b sb w/\bB h0 h' b n L:=by
 obtain⟨h',w1,w2,w3⟩:=t.own.write (o:=0) (vs:=[w]) (by simp);exact⟨h',w1,⟨w2,by rw[w3.next];exact t.lt,t.cE,t.ne⟩,⟨w3.ext d.ext t.cE,w3.own d.own (Ne.symm t.ne),d.cE,by rw[w3.next];exact d.lt,d.len,d.base,d.ok,d.gi⟩⟩
theorem aI.next{α:Type}[Inhabited α]{le:α->α->Prop}(hp:K8 le){L:List α}{a i:Int}(h:aI le L a i)(ai:a<i)(w:le (gt L (i-1)) (gt L i)):aI le L a (i+1):=by
 intro p q p0 pq q1;by_cases e:q=i
 ·rw[e]
  by_cases e2:p=i-1
  ·rw[e2];exact w
  ·exact hp.trans _ _ _ (h p (i-1) p0 om om) w
 ·exact h p q p0 pq om
theorem aI.less{α:Type}[Inhabited α]{le:α->α->Prop}{L:List α}{a b a' b':Int}(h:aI le L a b)(ha:a<=a')(hb:b'<=b):aI le L a' b':=fun p q p0 pq q1=>h p q om pq om
theorem aI.same{α:Type}[Inhabited α]{le:α->α->Prop}{L M:List α}{a b:Int}(h:aI le L a b)(e:∀k:Int,a<=k->k<b->gt M k=gt L k):aI le M a b:=fun p q p0 pq q1=>by rw[e p p0 om,e q om q1];exact h p q p0 pq q1
def uE(L:List LE)(A B:Int):Prop:=A=0\/∀k:Int,A<=k->k<B->gN (gt L (A-1)) (gt L k)
theorem uE.perm{L M:List LE}{A B:Int}(a0:0<=A)(h:uE L A B)(k:aJ A B L M):uE M A B:=by
 rcases h with h|h
 ·exact .inl h
 ·by_cases c:A=0
  ·exact .inl c
  ·refine .inr (fun j j0 j1=>?_)
   rw[k.out (A-1) om om];exact k.all (fun x=>gN (gt L (A-1)) x) h j j0 j1
variable{F:bk}{call head arith c0 d0 e0 u0 conv v0 z0 c1 d1 u1 place z1 nz d2 rd wr push next u2 z2 d3 f3 g3 l3 n3 o3 p3 r3 u3 x3 y3 fresh aw aG z3 a4 lt ne b4 c4 d4 yn f4 g4 i4 l4 n4 o4:_}(hA:AP F ⟨call,head,arith,c0,d0,e0,u0,conv,v0,z0,c1,d1,u1,place,z1,nz,d2,rd,wr,push,next,u2,z2,d3,f3,g3,l3,n3,o3,p3,r3,u3,x3,y3,fresh,aw,aG,z3,a4,lt,ne,b4,c4,d4,yn,f4,g4,i4,l4,n4,o4⟩)
include hA
theorem Je{h0 h:af}(aq:h0.low<=h0.next){b n c:Nat}{L:List LE}{f lo hi:Int}(f0:0<=f)(l0:0<=lo)(l1:lo<=100000)(hn:f+hi<=n)(t:bB h0 h b n L)(hX:pB gN L f lo hi lo){Q:Value->af->Prop}
  (hQ:∀h' L',bB h0 h' b n L'->aJ f (f+hi) L L'->ng gN L' f lo hi->Q (.tuple #[]) h'):call 120 [.slice (some ⟨b,0,none⟩) n c,.int .i64 lo,.int .i64 hi,.int .i64 f,.func (.func 70) #[] #[]] h Q:=by
 have dg:=aq
 replace aq:=t.ext.aD aq
 refine hA.aU Try.func120 Cp (hA.alike _ _ _ rfl) aq (zc ?_);refine KR hA dg (L0:=L) f0 l0 hn (fun h' L' x e kn hx t' hp hh=>?_) (hi-lo).toNat lo h L (Nat.le_refl _) (Int.le_refl _) l1 t (.refl _ _ _) hX;rcases hx with rfl|rfl
 ·refine zc ?_
  exact hQ h' L' t' hp hh
 ·refine zc ?_
  exact hQ h' L' t' hp hh
theorem HD{h0:af}(aq:h0.low<=h0.next){b n c:Nat}{L0:List LE}{f hi:Int}(f0:0<=f)(hn:f+hi<=n){Q:Exit->SS->Prop}
  (hQ:∀h' L,bB h0 h' b n L->aJ f (f+hi) L0 L->ng gN L f 0 hi->Q (.exit 0) ⟨[(0,.slice (some ⟨b,0,none⟩) n c),(3,.func (.func 70) #[] #[]),(8,.int .i64 f),(9,.int .i64 0),(10,.int .i64 hi)],0,[],h'⟩) :
  ∀(m:Nat) (i:Int) (h:af) (L:List LE),(i+1).toNat<=m->-1<=i->i<=100000->bB h0 h b n L->aJ f (f+hi) L0 L->ng gN L f (i+1) hi->
   head 102 4 0 ⟨[(0,.slice (some ⟨b,0,none⟩) n c),(3,.func (.func 70) #[] #[]),(8,.int .i64 f),(9,.int .i64 0),(10,.int .i64 hi),(11,.int .i64 i)],0,[],h⟩ Q:=by
 intro m
 induction m with
 |zero=>
  intro i h L hm i0 i1 t hp hh;obtain rfl:i=-1:=om
  refine hA.ar Try.func102 x102.2 (zc ?_);refine br False (by rw[bR hA];rfl) (fun q=>q.elim) (fun _=>?_)<;>refine zc ?_;exact hQ h L t hp hh
 |succ m ih=>
  intro i h L hm i0 i1 t hp hh;refine hA.ar Try.func102 x102.2 (zc ?_);refine br (0<=i) (by rw[bR hA]) (fun ci=>?_) (fun ci=>?_)<;>refine zc ?_
  rotate_left
  ·obtain rfl:i=-1:=om
   exact hQ h L t hp hh
  refine Je hA aq f0 ci i1 hn t (.start ci hh) (fun h' L' t' sZ An=>?_);refine zc ?_;rw[bO hA om om];exact ih (i-1) h' L' om om om t' (hp.trans sZ) (by rw[show i-1+1=i by omega];exact An)
theorem Ox{h0:af}(aq:h0.low<=h0.next){b n c:Nat}{L0:List LE}{f B:Int}(f0:0<=f)(hn:B<=n){Q:Exit->SS->Prop}
  (hQ:∀h' L e kn,bB h0 h' b n L->aJ f B L0 L->aI gN L f B->Q (.exit 2) ⟨e,kn,[],h'⟩) :
  ∀(m:Nat) (i:Int) (h:af) (L:List LE),(i+1).toNat<=m->-1<=i->f+i<B->bB h0 h b n L->aJ f B L0 L->MG gN L f (f+i+1) B->
   head 102 8 0 ⟨[(0,.slice (some ⟨b,0,none⟩) n c),(3,.func (.func 70) #[] #[]),(8,.int .i64 f),(9,.int .i64 0),(12,.int .i64 i)],0,[],h⟩ Q:=by
 intro m
 induction m with
 |zero=>
  intro i h L hm i0 i1 t hp hh;obtain rfl:i=-1:=om
  refine hA.ar Try.func102 x102.2 (zc ?_);refine br False (by rw[bR hA];rfl) (fun q=>q.elim) (fun _=>?_)<;>refine zc ?_;exact hQ h L _ _ t hp (by have:=hh.up;rw[show f + -1+1=f by omega]at this;exact this)
 |succ m ih=>
  intro i h L hm i0 i1 t hp hh;have gi:=t.gi;refine hA.ar Try.func102 x102.2 (zc ?_);refine br (0<=i) (by rw[bR hA]) (fun ci=>?_) (fun ci=>?_)<;>refine zc ?_
  rotate_left
  ·obtain rfl:i=-1:=om
   exact hQ h L _ _ t hp (by have:=hh.up;rw[show f + -1+1=f by omega]at this;exact this)
  have efi:arith .add .i64 f i=f+i:=aH hA om om;obtain⟨fi,hfi⟩:∃z,z=f+i:=⟨_,rfl⟩;rw[<-hfi]at efi hh;obtain⟨h2,mm⟩:∃z,z=aG h 20:=⟨_,rfl⟩;have x2:Ext h h2:=by rw[mm];exact au hA _ _
  have t2:=t.more x2;obtain⟨HA,HB,HC,b2,g2,f2,r2⟩:=t2.read (i:=f) om om;obtain⟨sU,sV,sW,Bg,AM,uO,rY⟩:=t2.read (i:=fi) om om;have q2:=aC hA r2;have FZ:=aC hA rY;rw[<-mm];obtain⟨h2c,ZF,p2,Yg,Yh⟩:=df hA t2 (i:=f) (j:=fi) om om om om g2 AM
  (refine zq ?_;repeat ((first|rw[efi]);refine zq ?_))
  obtain⟨k1,k2,k3⟩:=hh.swap eE f0 (by have:=t.len;omega) om om;rw[show fi-f=i by omega]at k1;have hsw:=aJ.swap (a:=f) (b:=B) L (i:=f) (j:=fi) f0 (by have:=t.len;omega) om om om om;refine Je hA aq f0 om om om Yh k1 (fun h' L' t' sZ An=>?_);refine zc ?_;rw[bO hA om om];rw[<-hfi]at sZ;obtain⟨k4,k5⟩:=sZ.bj f0 om k2 k3;refine ih (i-1) h' L' om om om t' ((hp.trans hsw).trans (sZ.wide f0 om om)) ?_;rw[show f+(i-1)+1=fi by omega];exact⟨by rw[show fi-f=i by omega];exact An,k4,k5⟩
theorem Q6{h0 h:af}(aq:h0.low<=h0.next){b n c:Nat}{L:List LE}{A B:Int}(a0:0<=A)(ab:A<B)(bn:B<=n)(t:bB h0 h b n L){Q:Value->af->Prop}
  (hQ:∀h' L',bB h0 h' b n L'->aJ A B L L'->aI gN L' A B->Q (.tuple #[]) h'):call 102 [.slice (some ⟨b,0,none⟩) n c,.int .i64 A,.int .i64 B,.func (.func 70) #[] #[]] h Q:=by
 have dg:=aq
 replace aq:=t.ext.aD aq
 have gi:=t.gi;obtain⟨hi,Vp⟩:∃z,z=B-A:=⟨_,rfl⟩;have e1:arith .sub .i64 B A=hi:=by rw[Vp];exact bO hA om om
 obtain⟨hj,hhj⟩:∃z,z=hi-1:=⟨_,rfl⟩;have e2:arith .sub .i64 hi 1=hj:=by rw[hhj];exact bO hA om om
 have e3:arith .quo .i64 hj 2=hj / 2:=uy hA om om om;obtain⟨hk,hhk⟩:∃z,z=hj / 2:=⟨_,rfl⟩;rw[<-hhk]at e3;refine hA.aU Try.func102 x102.2 (hA.alike _ _ _ rfl) aq (zc ?_);rw[e1]
 (refine zq ?_;repeat ((first|rw[e2]|rw[e3]);refine zq ?_))
 refine HD hA dg (L0:=L) (f:=A) (hi:=hi) a0 om (fun h' L' t' hp hh=>?_) (hk+1).toNat hk h L (Nat.le_refl _) om om t (.refl _ _ _) (fun k k0 k1 k2=>by unfold par at k2;omega)
 (refine zq ?_;repeat ((first|rw[e2]);refine zq ?_))
 refine Ox hA dg (L0:=L) (f:=A) (B:=B) a0 bn (fun h2 L2 e kn t2 hp2 hs=>?_) (hj+1).toNat hj h' L' (Nat.le_refl _) om om t' (by rw[show B=A+hi by omega];exact hp) ⟨by rw[show A+hj+1-A=hi by omega];exact hh,fun p q p0 pq q1=>om,fun p q p0 p1 q0 q1=>om⟩;refine zc ?_;exact hQ h2 L2 t2 hp2 hs
theorem up3{h0:af}(aq:h0.low<=h0.next){b n c:Nat}{L:List LE}{A B j s:Int}(a0:0<=A)(bn:B<=n){Q:Exit->SS->Prop}
  (hQ:∀h' i,s<=i->bB h0 h' b n L->Part gN L A B i j->(i<=j->gN (gt L A) (gt L i))->Q (.exit 0) ⟨[(0,.slice (some ⟨b,0,none⟩) n c),(1,.int .i64 A),(4,.func (.func 70) #[] #[]),(12,.int .i64 i),(13,.int .i64 j)],32,[],h'⟩) :
  ∀(m:Nat) (i:Int) (h:af),(j+1-i).toNat<=m->s<=i->bB h0 h b n L->Part gN L A B i j->
   head 108 3 16 ⟨[(0,.slice (some ⟨b,0,none⟩) n c),(1,.int .i64 A),(4,.func (.func 70) #[] #[]),(12,.int .i64 i),(13,.int .i64 j)],16,[],h⟩ Q:=by
 intro m
 induction m with
 |zero=>
  intro i h hm hs t hp;refine hA.ar Try.func108 jB (zc ?_);refine br (i<=j) (by rw[jO hA]) (fun q=>om) (fun q=>?_)<;>refine zc ?_;exact hQ _ i hs (t.more (au hA _ _)) hp (fun w=>absurd w q)
 |succ m ih=>
  intro i h hm hs t hp;have gi:=t.gi;have p1:=hp.i0;have p2:=hp.j1;refine hA.ar Try.func108 jB (zc ?_);refine br (i<=j) (by rw[jO hA]) (fun ci=>?_) (fun q=>?_)<;>refine zc ?_
  rotate_left
  ·exact hQ _ i hs (t.more (au hA _ _)) hp (fun w=>absurd w q)
  obtain⟨h2,mm⟩:∃z,z=aG h 16:=⟨_,rfl⟩;have x2:Ext h h2:=by rw[mm];exact au hA _ _
  have t2:=t.more x2;obtain⟨HA,HB,HC,b2,g2,f2,r2⟩:=t2.read (i:=i) om om;obtain⟨sU,sV,sW,Bg,AM,uO,rY⟩:=t2.read (i:=A) om om;have q2:=aC hA r2;have FZ:=aC hA rY;rw[<-mm];have e1:arith .add .i64 i 1=i+1:=aH hA om om;refine zq ?_;refine fN hA (aB hA h2) (dL hA f2) (dL hA uO) (fun u wG hu x2a=>⟨_,rfl,?_⟩);have pK:=dR hA aq t2 x2a;refine zc ?_;generalize aw h2 wG=pL at *;refine br (u<0) (by rw[aA hA]) (fun cu=>?_) (fun cu=>?_)<;>refine zc ?_
  ·rw[hu]at cu
   rw[e1];exact ih (i+1) pL om om pK (hp.left ci (LL.le_of_lt (cU.1 cu)))
  ·rw[hu]at cu
   exact hQ pL i hs pK hp (fun _=>LL.not_lt.1 (fun w=>cu (cU.2 w)))
theorem Yi{h0:af}(aq:h0.low<=h0.next){b n c:Nat}{L:List LE}{A B i s:Int}(a0:0<=A)(bn:B<=n){Q:Exit->SS->Prop}
  (hQ:∀h' j,j<=s->bB h0 h' b n L->Part gN L A B i j->(i<=j->gN (gt L j) (gt L A)/\¬gN (gt L A) (gt L j))->Q (.exit 2) ⟨[(0,.slice (some ⟨b,0,none⟩) n c),(1,.int .i64 A),(4,.func (.func 70) #[] #[]),(12,.int .i64 i),(13,.int .i64 j)],49,[],h'⟩) :
  ∀(m:Nat) (j:Int) (h:af),(j+1-i).toNat<=m->j<=s->bB h0 h b n L->Part gN L A B i j->
   head 108 5 32 ⟨[(0,.slice (some ⟨b,0,none⟩) n c),(1,.int .i64 A),(4,.func (.func 70) #[] #[]),(12,.int .i64 i),(13,.int .i64 j)],32,[],h⟩ Q:=by
 intro m
 induction m with
 |zero=>
  intro j h hm hs t hp;refine hA.ar Try.func108 jB (zc ?_);refine br (i<=j) (by rw[jO hA]) (fun q=>om) (fun q=>?_)<;>refine zc ?_;exact hQ _ j hs (t.more (au hA _ _)) hp (fun w=>absurd w q)
 |succ m ih=>
  intro j h hm hs t hp;have gi:=t.gi;have p1:=hp.i0;have p2:=hp.j1;refine hA.ar Try.func108 jB (zc ?_);refine br (i<=j) (by rw[jO hA]) (fun ci=>?_) (fun q=>?_)<;>refine zc ?_
  rotate_left
  ·exact hQ _ j hs (t.more (au hA _ _)) hp (fun w=>absurd w q)
  obtain⟨h2,mm⟩:∃z,z=aG h 17:=⟨_,rfl⟩;have x2:Ext h h2:=by rw[mm];exact au hA _ _
  have t2:=t.more x2;obtain⟨HA,HB,HC,b2,g2,f2,r2⟩:=t2.read (i:=j) om om;obtain⟨sU,sV,sW,Bg,AM,uO,rY⟩:=t2.read (i:=A) om om;have q2:=aC hA r2;have FZ:=aC hA rY;rw[<-mm];have e1:arith .sub .i64 j 1=j-1:=bO hA om om;refine zq ?_;refine fN hA (aB hA h2) (dL hA f2) (dL hA uO) (fun u wG hu x2a=>⟨_,rfl,?_⟩);have pK:=dR hA aq t2 x2a;refine zc ?_;generalize aw h2 wG=pL at *;refine br (0<=u) (by rw[dk hA,aA hA];by_cases z:u<0<;>simp[z]<;>omega) (fun cu=>?_) (fun cu=>?_)<;>refine zc ?_
  ·rw[hu]at cu
   rw[e1];exact ih (j-1) pL om om pK (hp.right ci (LL.not_lt.1 (fun w=>by have:=cU.2 w;omega)))
  ·rw[hu]at cu
   have lt:=cU.1 (show gn (gt L j).q (gt L A).q<0 by omega);exact hQ pL j hs pK hp (fun _=>⟨LL.le_of_lt lt,LL.not_le.2 lt⟩)
theorem Yj{h0:af}(aq:h0.low<=h0.next){b n c:Nat}{L:List LE}{A B j s:Int}(a0:0<=A)(bn:B<=n){Q:Exit->SS->Prop}
  (hQ:∀h' i,s<=i->bB h0 h' b n L->Part gN L A B i j->(i<=j->gN (gt L A) (gt L i))->Q (.exit 6) ⟨[(0,.slice (some ⟨b,0,none⟩) n c),(1,.int .i64 A),(4,.func (.func 70) #[] #[]),(12,.int .i64 i),(13,.int .i64 j)],81,[],h'⟩) :
  ∀(m:Nat) (i:Int) (h:af),(j+1-i).toNat<=m->s<=i->bB h0 h b n L->Part gN L A B i j->
   head 108 13 65 ⟨[(0,.slice (some ⟨b,0,none⟩) n c),(1,.int .i64 A),(4,.func (.func 70) #[] #[]),(12,.int .i64 i),(13,.int .i64 j)],65,[],h⟩ Q:=by
 intro m
 induction m with
 |zero=>
  intro i h hm hs t hp;refine hA.ar Try.func108 jB (zc ?_);refine br (i<=j) (by rw[jO hA]) (fun q=>om) (fun q=>?_)<;>refine zc ?_;exact hQ _ i hs (t.more (au hA _ _)) hp (fun w=>absurd w q)
 |succ m ih=>
  intro i h hm hs t hp;have gi:=t.gi;have p1:=hp.i0;have p2:=hp.j1;refine hA.ar Try.func108 jB (zc ?_);refine br (i<=j) (by rw[jO hA]) (fun ci=>?_) (fun q=>?_)<;>refine zc ?_
  rotate_left
  ·exact hQ _ i hs (t.more (au hA _ _)) hp (fun w=>absurd w q)
  obtain⟨h2,mm⟩:∃z,z=aG h 16:=⟨_,rfl⟩;have x2:Ext h h2:=by rw[mm];exact au hA _ _
  have t2:=t.more x2;obtain⟨HA,HB,HC,b2,g2,f2,r2⟩:=t2.read (i:=i) om om;obtain⟨sU,sV,sW,Bg,AM,uO,rY⟩:=t2.read (i:=A) om om;have q2:=aC hA r2;have FZ:=aC hA rY;rw[<-mm];have e1:arith .add .i64 i 1=i+1:=aH hA om om;refine zq ?_;refine fN hA (aB hA h2) (dL hA f2) (dL hA uO) (fun u wG hu x2a=>⟨_,rfl,?_⟩);have pK:=dR hA aq t2 x2a;refine zc ?_;generalize aw h2 wG=pL at *;refine br (u<0) (by rw[aA hA]) (fun cu=>?_) (fun cu=>?_)<;>refine zc ?_
  ·rw[hu]at cu
   rw[e1];exact ih (i+1) pL om om pK (hp.left ci (LL.le_of_lt (cU.1 cu)))
  ·rw[hu]at cu
   exact hQ pL i hs pK hp (fun _=>LL.not_lt.1 (fun w=>cu (cU.2 w)))
theorem Oy{h0:af}(aq:h0.low<=h0.next){b n c:Nat}{L:List LE}{A B i s:Int}(a0:0<=A)(bn:B<=n){Q:Exit->SS->Prop}
  (hQ:∀h' j,j<=s->bB h0 h' b n L->Part gN L A B i j->(i<=j->gN (gt L j) (gt L A)/\¬gN (gt L A) (gt L j))->Q (.exit 8) ⟨[(0,.slice (some ⟨b,0,none⟩) n c),(1,.int .i64 A),(4,.func (.func 70) #[] #[]),(12,.int .i64 i),(13,.int .i64 j)],98,[],h'⟩) :
  ∀(m:Nat) (j:Int) (h:af),(j+1-i).toNat<=m->j<=s->bB h0 h b n L->Part gN L A B i j->
   head 108 15 81 ⟨[(0,.slice (some ⟨b,0,none⟩) n c),(1,.int .i64 A),(4,.func (.func 70) #[] #[]),(12,.int .i64 i),(13,.int .i64 j)],81,[],h⟩ Q:=by
 intro m
 induction m with
 |zero=>
  intro j h hm hs t hp;refine hA.ar Try.func108 jB (zc ?_);refine br (i<=j) (by rw[jO hA]) (fun q=>om) (fun q=>?_)<;>refine zc ?_;exact hQ _ j hs (t.more (au hA _ _)) hp (fun w=>absurd w q)
 |succ m ih=>
  intro j h hm hs t hp;have gi:=t.gi;have p1:=hp.i0;have p2:=hp.j1;refine hA.ar Try.func108 jB (zc ?_);refine br (i<=j) (by rw[jO hA]) (fun ci=>?_) (fun q=>?_)<;>refine zc ?_
  rotate_left
  ·exact hQ _ j hs (t.more (au hA _ _)) hp (fun w=>absurd w q)
  obtain⟨h2,mm⟩:∃z,z=aG h 17:=⟨_,rfl⟩;have x2:Ext h h2:=by rw[mm];exact au hA _ _
  have t2:=t.more x2;obtain⟨HA,HB,HC,b2,g2,f2,r2⟩:=t2.read (i:=j) om om;obtain⟨sU,sV,sW,Bg,AM,uO,rY⟩:=t2.read (i:=A) om om;have q2:=aC hA r2;have FZ:=aC hA rY;rw[<-mm];have e1:arith .sub .i64 j 1=j-1:=bO hA om om;refine zq ?_;refine fN hA (aB hA h2) (dL hA f2) (dL hA uO) (fun u wG hu x2a=>⟨_,rfl,?_⟩);have pK:=dR hA aq t2 x2a;refine zc ?_;generalize aw h2 wG=pL at *;refine br (0<=u) (by rw[dk hA,aA hA];by_cases z:u<0<;>simp[z]<;>omega) (fun cu=>?_) (fun cu=>?_)<;>refine zc ?_
  ·rw[hu]at cu
   rw[e1];exact ih (j-1) pL om om pK (hp.right ci (LL.not_lt.1 (fun w=>by have:=cU.2 w;omega)))
  ·rw[hu]at cu
   have lt:=cU.1 (show gn (gt L j).q (gt L A).q<0 by omega);exact hQ pL j hs pK hp (fun _=>⟨LL.le_of_lt lt,LL.not_le.2 lt⟩)
theorem KS{h0:af}(aq:h0.low<=h0.next){b n c:Nat}{L0:List LE}{A B:Int}(a0:0<=A)(bn:B<=n){Q:Exit->SS->Prop}
  (hQ:∀h' L i j,bB h0 h' b n L->aJ A B L0 L->Part gN L A B i j->j<i->Q (.exit 4) ⟨[(0,.slice (some ⟨b,0,none⟩) n c),(1,.int .i64 A),(13,.int .i64 j)],98,[],h'⟩) :
  ∀(m:Nat) (i j:Int) (h:af) (L:List LE),(j+1-i).toNat<=m->bB h0 h b n L->aJ A B L0 L->Part gN L A B i j->
   head 108 1013 65 ⟨[(0,.slice (some ⟨b,0,none⟩) n c),(1,.int .i64 A),(4,.func (.func 70) #[] #[]),(12,.int .i64 i),(13,.int .i64 j)],65,[],h⟩ Q:=by
 intro m
 induction m with
 |zero=>
  intro i j h L hm t hp hI;refine hA.ar Try.func108 jB (zc ?_);refine Yj hA aq a0 bn (s:=i) (fun h1 i1 s1 t1 UE w1=>?_) (j+1-i).toNat i h (Nat.le_refl _) (Int.le_refl _) t hI;refine zc ?_;refine Oy hA aq a0 bn (s:=j) (fun h2 j2 s2 t2 KT w2=>?_) (j+1-i1).toNat j h1 (Nat.le_refl _) (Int.le_refl _) t1 UE;refine zc ?_;refine br (j2<i1) (by rw[dP hA]) (fun _=>?_) (fun q=>om)<;>refine zc ?_;exact hQ h2 L i1 j2 t2 hp KT om
 |succ m ih=>
  intro i j h L hm t hp hI;have gi:=t.gi;refine hA.ar Try.func108 jB (zc ?_);refine Yj hA aq a0 bn (s:=i) (fun h1 i1 s1 t1 UE w1=>?_) (j+1-i).toNat i h (Nat.le_refl _) (Int.le_refl _) t hI;refine zc ?_;refine Oy hA aq a0 bn (s:=j) (fun h2 j2 s2 t2 KT w2=>?_) (j+1-i1).toNat j h1 (Nat.le_refl _) (Int.le_refl _) t1 UE;refine zc ?_;refine br (j2<i1) (by rw[dP hA]) (fun q=>?_) (fun ci=>?_)<;>refine zc ?_
  ·exact hQ h2 L i1 j2 t2 hp KT q
  have k1:=KT.i0;have k2:=KT.j1;obtain⟨v1,v2⟩:=w2 om;have v3:=w1 om;have ne:i1≠j2:=fun e=>v2 (by rw[<-e];exact v3)
  have e1:arith .add .i64 i1 1=i1+1:=aH hA om om;have e2:arith .sub .i64 j2 1=j2-1:=bO hA om om;obtain⟨i2,Cn⟩:∃z,z=i1+1:=⟨_,rfl⟩;obtain⟨j3,UF⟩:∃z,z=j2-1:=⟨_,rfl⟩;rw[<-Cn]at e1;rw[<-UF]at e2;obtain⟨h5,sX⟩:∃z,z=aG h2 16:=⟨_,rfl⟩;have x5:Ext h2 h5:=by rw[sX];exact au hA _ _
  have t5:=t2.more x5;obtain⟨Q7,Q8,Q9,b5,g5,f5,r5⟩:=t5.read (i:=i1) om om;obtain⟨CX,CY,CZ,Ra,Dh,Pu,C2⟩:=t5.read (i:=j2) om om;have q5:=aC hA r5;have LN:=aC hA C2;rw[<-sX];obtain⟨SF,Di,p5,SG,Dj⟩:=df hA t5 (i:=i1) (j:=j2) om om om om g5 Dh
  (refine zq ?_;repeat ((first|rw[e1]|rw[e2]);refine zq ?_))
  refine ih i2 j3 Di _ om Dj (hp.trans (aJ.swap L a0 (by have:=t.len;omega) om om om om)) ?_;rw[Cn,UF];exact KT.swap a0 (by have:=t.len;omega) om v3 v1
theorem Rc{h0 h:af}(aq:h0.low<=h0.next){b n c:Nat}{L:List LE}{A B p:Int}(a0:0<=A)(bn:B<=n)(pa:A<=p)(pb:p<B)(t:bB h0 h b n L){Q:Value->af->Prop}
  (hQ:∀h' L' m (r:Bool),bB h0 h' b n L'->aJ A B L L'->A<=m->m<B->(∀p:Int,A<=p->p<m->gN (gt L' p) (gt L' m))->(∀p:Int,m<p->p<B->gN (gt L' m) (gt L' p))->Q (.tuple #[.int .i64 m,.bool r]) h') :
  call 108 [.slice (some ⟨b,0,none⟩) n c,.int .i64 A,.int .i64 B,.int .i64 p,.func (.func 70) #[] #[]] h Q:=by
 have dg:=aq
 replace aq:=t.ext.aD aq
 have gi:=t.gi;have e1:arith .add .i64 A 1=A+1:=aH hA om om;have e2:arith .sub .i64 B 1=B-1:=bO hA om om;obtain⟨A1,VD⟩:∃z,z=A+1:=⟨_,rfl⟩;obtain⟨B1,ZG⟩:∃z,z=B-1:=⟨_,rfl⟩;rw[<-VD]at e1;rw[<-ZG]at e2;refine hA.aU Try.func108 jB (hA.alike _ _ _ rfl) aq (zc ?_);obtain⟨h2,mm⟩:∃z,z=aG h 16:=⟨_,rfl⟩;have x2:Ext h h2:=by rw[mm];exact au hA _ _
 have t2:=t.more x2;obtain⟨HA,HB,HC,b2,g2,f2,r2⟩:=t2.read (i:=A) om om;obtain⟨sU,sV,sW,Bg,AM,uO,rY⟩:=t2.read (i:=p) om om;have q2:=aC hA r2;have FZ:=aC hA rY;rw[<-mm];obtain⟨h2c,ZF,p2,Yg,Yh⟩:=df hA t2 (i:=A) (j:=p) om om om om g2 AM
 (refine zq ?_;repeat ((first|rw[e1]|rw[e2]);refine zq ?_))
 have s2:=aJ.swap (a:=A) (b:=B) L (i:=A) (j:=p) a0 (by have:=t.len;omega) om om pa pb;generalize dJ L A p=L2 at *;have hI:Part gN L2 A B A1 B1:=by rw[VD,ZG];exact .start L2 om
 refine up3 hA dg a0 bn (s:=A1) (fun h3 i3 s3 t3 hI3 w3=>?_) (B1+1-A1).toNat A1 ZF (Nat.le_refl _) (Int.le_refl _) Yh hI;refine zc ?_;refine Yi hA dg a0 bn (s:=B1) (fun h4 j4 s4 t4 Yk w4=>?_) (B1+1-i3).toNat B1 h3 (Nat.le_refl _) (Int.le_refl _) t3 hI3;refine zc ?_;have fin:∀(hh:af) (L':List LE) (i j:Int),bB h0 hh b n L'->aJ A B L L'->Part gN L' A B i j->j<i->∀An (r:Bool),bB h0 An b n (dJ L' j A)->Q (.tuple #[.int .i64 j,.bool r]) An:=fun hh L' i j td hp hI c An r td'=>by
  have k1:=hI.i0;have k2:=hI.j1;have k3:=hI.ij;obtain⟨f1,f2⟩:=hI.done a0 (by have:=td.len;omega) c;exact hQ An _ j r td' (hp.trans (aJ.swap L' a0 (by have:=td.len;omega) om om om om)) om om f1 f2
 have k1:=Yk.i0;have k2:=Yk.j1;have k3:=Yk.ij;refine br (j4<i3) (by rw[dP hA]) (fun q=>?_) (fun ci=>?_)<;>refine zc ?_
 ·have UG:=fin h4 L2 i3 j4 t4 s2 Yk q
  have abp:=dg;clear aq;have aq:=dg;obtain⟨h6,ZH⟩:∃z,z=aG h4 16:=⟨_,rfl⟩;have x6:Ext h4 h6:=by rw[ZH];exact au hA _ _
  have t6:=t4.more x6;obtain⟨a6x,a6y,a6z,b6,g6,f6,r6⟩:=t6.read (i:=j4) om om;obtain⟨a6'x,a6'y,a6'z,b6',g6',f6',r6'⟩:=t6.read (i:=A) om om;have q6:=aC hA r6;have q6':=aC hA r6';rw[<-ZH];obtain⟨h6c,h6d,p6,p6',t6d⟩:=df hA t6 (i:=j4) (j:=A) om om om om g6 g6';refine zq ?_;exact UG _ _ t6d
 obtain⟨v1,v2⟩:=w4 om;have v3:=w3 om;have ne:i3≠j4:=fun e=>v2 (by rw[<-e];exact v3)
 have e3:arith .add .i64 i3 1=i3+1:=aH hA om om;have e4:arith .sub .i64 j4 1=j4-1:=bO hA om om;obtain⟨i5,hi5⟩:∃z,z=i3+1:=⟨_,rfl⟩;obtain⟨j5,hj5⟩:∃z,z=j4-1:=⟨_,rfl⟩;rw[<-hi5]at e3;rw[<-hj5]at e4;obtain⟨h7,hh7⟩:∃z,z=aG h4 16:=⟨_,rfl⟩;have x7:Ext h4 h7:=by rw[hh7];exact au hA _ _
 have t7:=t4.more x7;obtain⟨a7x,a7y,a7z,b7,g7,f7,r7⟩:=t7.read (i:=i3) om om;obtain⟨a7'x,a7'y,a7'z,b7',g7',f7',r7'⟩:=t7.read (i:=j4) om om;have q7:=aC hA r7;have q7':=aC hA r7';rw[<-hh7];obtain⟨h7c,h7d,p7,p7',t7d⟩:=df hA t7 (i:=i3) (j:=j4) om om om om g7 g7'
 (refine zq ?_;repeat ((first|rw[e3]|rw[e4]);refine zq ?_))
 have hI7:=Yk.swap a0 (by have:=t4.len;omega) om v3 v1;rw[<-hi5,<-hj5]at hI7;refine KS hA dg (L0:=L) a0 bn (fun h8 L8 i8 j8 t8 hp8 ZI c8=>?_) (j5+1-i5).toNat i5 j5 h7d _ (Nat.le_refl _) t7d (s2.trans (aJ.swap L2 a0 (by have:=t4.len;omega) om om om om)) hI7;have m1:=ZI.i0;have m2:=ZI.j1;have m3:=ZI.ij;have UG:=fin h8 L8 i8 j8 t8 hp8 ZI c8;refine zc ?_;obtain⟨h9,iF⟩:∃z,z=aG h8 16:=⟨_,rfl⟩;have x9:Ext h8 h9:=by rw[iF];exact au hA _ _
 have t9:=t8.more x9;obtain⟨a9x,a9y,a9z,b9,g9,f9,r9⟩:=t9.read (i:=j8) om om;obtain⟨a9'x,a9'y,a9'z,b9',g9',f9',r9'⟩:=t9.read (i:=A) om om;have q9:=aC hA r9;have q9':=aC hA r9';rw[<-iF];obtain⟨h9c,h9d,p9,p9',t9d⟩:=df hA t9 (i:=j8) (j:=A) om om om om g9 g9';refine zq ?_;exact UG _ _ t9d
theorem SH{h0:af}(aq:h0.low<=h0.next){b n c:Nat}{L:List LE}{A B j s:Int}(a0:0<=A)(bn:B<=n){Q:Exit->SS->Prop}
  (hQ:∀h' i,s<=i->bB h0 h' b n L->mo gN L A B i j->(i<=j->¬gN (gt L i) (gt L A))->Q (.exit 2) ⟨[(0,.slice (some ⟨b,0,none⟩) n c),(1,.int .i64 A),(4,.func (.func 70) #[] #[]),(11,.int .i64 i),(12,.int .i64 j)],33,[],h'⟩) :
  ∀(m:Nat) (i:Int) (h:af),(j+1-i).toNat<=m->s<=i->bB h0 h b n L->mo gN L A B i j->
   head 107 3 16 ⟨[(0,.slice (some ⟨b,0,none⟩) n c),(1,.int .i64 A),(4,.func (.func 70) #[] #[]),(11,.int .i64 i),(12,.int .i64 j)],16,[],h⟩ Q:=by
 intro m
 induction m with
 |zero=>
  intro i h hm hs t hp;refine hA.ar Try.func107 oK (zc ?_);refine br (i<=j) (by rw[jO hA]) (fun q=>om) (fun q=>?_)<;>refine zc ?_;exact hQ _ i hs (t.more (au hA _ _)) hp (fun w=>absurd w q)
 |succ m ih=>
  intro i h hm hs t hp;have gi:=t.gi;have p1:=hp.i0;have p2:=hp.j1;refine hA.ar Try.func107 oK (zc ?_);refine br (i<=j) (by rw[jO hA]) (fun ci=>?_) (fun q=>?_)<;>refine zc ?_
  rotate_left
  ·exact hQ _ i hs (t.more (au hA _ _)) hp (fun w=>absurd w q)
  obtain⟨h2,mm⟩:∃z,z=aG h 17:=⟨_,rfl⟩;have x2:Ext h h2:=by rw[mm];exact au hA _ _
  have t2:=t.more x2;obtain⟨HA,HB,HC,b2,g2,f2,r2⟩:=t2.read (i:=A) om om;obtain⟨sU,sV,sW,Bg,AM,uO,rY⟩:=t2.read (i:=i) om om;have q2:=aC hA r2;have FZ:=aC hA rY;rw[<-mm];have e1:arith .add .i64 i 1=i+1:=aH hA om om;refine zq ?_;refine fN hA (aB hA h2) (dL hA f2) (dL hA uO) (fun u wG hu x2a=>⟨_,rfl,?_⟩);have pK:=dR hA aq t2 x2a;refine zc ?_;generalize aw h2 wG=pL at *;refine br (0<=u) (by rw[dk hA,aA hA];by_cases z:u<0<;>simp[z]<;>omega) (fun cu=>?_) (fun cu=>?_)<;>refine zc ?_
  ·rw[hu]at cu
   rw[e1];exact ih (i+1) pL om om pK (hp.left ci (LL.not_lt.1 (fun w=>by have:=cU.2 w;omega)))
  ·rw[hu]at cu
   exact hQ pL i hs pK hp (fun _=>LL.not_le.2 (cU.1 (show gn (gt L A).q (gt L i).q<0 by omega)))
theorem Jf{h0:af}(aq:h0.low<=h0.next){b n c:Nat}{L:List LE}{A B i s:Int}(a0:0<=A)(bn:B<=n){Q:Exit->SS->Prop}
  (hQ:∀h' j,j<=s->bB h0 h' b n L->mo gN L A B i j->(i<=j->gN (gt L j) (gt L A))->Q (.exit 4) ⟨[(0,.slice (some ⟨b,0,none⟩) n c),(1,.int .i64 A),(4,.func (.func 70) #[] #[]),(11,.int .i64 i),(12,.int .i64 j)],49,[],h'⟩) :
  ∀(m:Nat) (j:Int) (h:af),(j+1-i).toNat<=m->j<=s->bB h0 h b n L->mo gN L A B i j->
   head 107 5 33 ⟨[(0,.slice (some ⟨b,0,none⟩) n c),(1,.int .i64 A),(4,.func (.func 70) #[] #[]),(11,.int .i64 i),(12,.int .i64 j)],33,[],h⟩ Q:=by
 intro m
 induction m with
 |zero=>
  intro j h hm hs t hp;refine hA.ar Try.func107 oK (zc ?_);refine br (i<=j) (by rw[jO hA]) (fun q=>om) (fun q=>?_)<;>refine zc ?_;exact hQ _ j hs (t.more (au hA _ _)) hp (fun w=>absurd w q)
 |succ m ih=>
  intro j h hm hs t hp;have gi:=t.gi;have p1:=hp.i0;have p2:=hp.j1;refine hA.ar Try.func107 oK (zc ?_);refine br (i<=j) (by rw[jO hA]) (fun ci=>?_) (fun q=>?_)<;>refine zc ?_
  rotate_left
  ·exact hQ _ j hs (t.more (au hA _ _)) hp (fun w=>absurd w q)
  obtain⟨h2,mm⟩:∃z,z=aG h 16:=⟨_,rfl⟩;have x2:Ext h h2:=by rw[mm];exact au hA _ _
  have t2:=t.more x2;obtain⟨HA,HB,HC,b2,g2,f2,r2⟩:=t2.read (i:=A) om om;obtain⟨sU,sV,sW,Bg,AM,uO,rY⟩:=t2.read (i:=j) om om;have q2:=aC hA r2;have FZ:=aC hA rY;rw[<-mm];have e1:arith .sub .i64 j 1=j-1:=bO hA om om;refine zq ?_;refine fN hA (aB hA h2) (dL hA f2) (dL hA uO) (fun u wG hu x2a=>⟨_,rfl,?_⟩);have pK:=dR hA aq t2 x2a;refine zc ?_;generalize aw h2 wG=pL at *;refine br (u<0) (by rw[aA hA]) (fun cu=>?_) (fun cu=>?_)<;>refine zc ?_
  ·rw[e1]
   exact ih (j-1) pL om om pK (hp.right ci)
  ·rw[hu]at cu
   exact hQ pL j hs pK hp (fun _=>LL.not_lt.1 (fun w=>cu (cU.2 w)))
theorem Rd{h0:af}(aq:h0.low<=h0.next){b n c:Nat}{L0:List LE}{A B:Int}(a0:0<=A)(bn:B<=n){v:LE}{Q:Exit->SS->Prop}
  (hQ:∀h' L i e,bB h0 h' b n L->aJ A B L0 L->A<i->i<=B->(∀p:Int,A<=p->p<i->gN (gt L p) v)->Q (.exit 0) ⟨(11,.int .i64 i) :: e,49,[],h'⟩) :
  ∀(m:Nat) (i j:Int) (h:af) (L:List LE),(j+1-i).toNat<=m->bB h0 h b n L->aJ A B L0 L->mo gN L A B i j->gt L A=v->
   head 107 1003 16 ⟨[(0,.slice (some ⟨b,0,none⟩) n c),(1,.int .i64 A),(4,.func (.func 70) #[] #[]),(11,.int .i64 i),(12,.int .i64 j)],16,[],h⟩ Q:=by
 intro m;have fin:∀(h:af) (L:List LE) (i j:Int),bB h0 h b n L->aJ A B L0 L->mo gN L A B i j->gt L A=v->j<i->Q (.exit 0) ⟨[(11,.int .i64 i)],49,[],h⟩:=fun h L i j t hp hI hv c=>by
  have k1:=hI.i0;have k2:=hI.j1;have k3:=hI.ij;refine hQ h L i _ t hp k1 om (fun p p0 p1=>?_);by_cases e:p=A
  ·rw[e,hv];exact eE.refl _
  ·rw[<-hv];exact hI.low p om p1
 induction m with
 |zero=>
  intro i j h L hm t hp hI hv;refine hA.ar Try.func107 oK (zc ?_);refine SH hA aq a0 bn (s:=i) (fun h1 i1 s1 t1 UE w1=>?_) (j+1-i).toNat i h (Nat.le_refl _) (Int.le_refl _) t hI;refine zc ?_;refine Jf hA aq a0 bn (s:=j) (fun h2 j2 s2 t2 KT w2=>?_) (j+1-i1).toNat j h1 (Nat.le_refl _) (Int.le_refl _) t1 UE;refine zc ?_;refine br (j2<i1) (by rw[dP hA]) (fun _=>?_) (fun q=>om)<;>refine zc ?_;exact fin h2 L i1 j2 t2 hp KT hv om
 |succ m ih=>
  intro i j h L hm t hp hI hv;have gi:=t.gi;refine hA.ar Try.func107 oK (zc ?_);refine SH hA aq a0 bn (s:=i) (fun h1 i1 s1 t1 UE w1=>?_) (j+1-i).toNat i h (Nat.le_refl _) (Int.le_refl _) t hI;refine zc ?_;refine Jf hA aq a0 bn (s:=j) (fun h2 j2 s2 t2 KT w2=>?_) (j+1-i1).toNat j h1 (Nat.le_refl _) (Int.le_refl _) t1 UE;refine zc ?_;refine br (j2<i1) (by rw[dP hA]) (fun q=>?_) (fun ci=>?_)<;>refine zc ?_
  ·exact fin h2 L i1 j2 t2 hp KT hv q
  have k1:=KT.i0;have k2:=KT.j1;have v2:=w2 om;have v3:=w1 om;have ne:i1≠j2:=fun e=>v3 (by rw[e];exact v2)
  have e1:arith .add .i64 i1 1=i1+1:=aH hA om om;have e2:arith .sub .i64 j2 1=j2-1:=bO hA om om;obtain⟨i2,Cn⟩:∃z,z=i1+1:=⟨_,rfl⟩;obtain⟨j3,UF⟩:∃z,z=j2-1:=⟨_,rfl⟩;rw[<-Cn]at e1;rw[<-UF]at e2;obtain⟨h5,sX⟩:∃z,z=aG h2 16:=⟨_,rfl⟩;have x5:Ext h2 h5:=by rw[sX];exact au hA _ _
  have t5:=t2.more x5;obtain⟨Q7,Q8,Q9,b5,g5,f5,r5⟩:=t5.read (i:=i1) om om;obtain⟨CX,CY,CZ,Ra,Dh,Pu,C2⟩:=t5.read (i:=j2) om om;have q5:=aC hA r5;have LN:=aC hA C2;rw[<-sX];obtain⟨SF,Di,p5,SG,Dj⟩:=df hA t5 (i:=i1) (j:=j2) om om om om g5 Dh
  (refine zq ?_;repeat ((first|rw[e1]|rw[e2]);refine zq ?_))
  refine ih i2 j3 Di _ om Dj (hp.trans (aJ.swap L a0 (by have:=t.len;omega) om om om om)) ?_ ?_
  ·rw[Cn,UF]
   exact KT.swap a0 (by have:=t.len;omega) om v2
  ·rw[jD L om (by have:=t.len;omega) om (by have:=t.len;omega) a0,if_neg om,if_neg om,hv]
theorem Oz{h0 h:af}(aq:h0.low<=h0.next){b n c:Nat}{L:List LE}{A B p:Int}(a0:0<=A)(bn:B<=n)(pa:A<=p)(pb:p<B)(t:bB h0 h b n L){Q:Value->af->Prop}
  (hQ:∀h' L' m,bB h0 h' b n L'->aJ A B L L'->A<m->m<=B->(∀k:Int,A<=k->k<m->gN (gt L' k) (gt L p))->Q (.int .i64 m) h') :
  call 107 [.slice (some ⟨b,0,none⟩) n c,.int .i64 A,.int .i64 B,.int .i64 p,.func (.func 70) #[] #[]] h Q:=by
 have dg:=aq
 replace aq:=t.ext.aD aq
 have gi:=t.gi;have e1:arith .add .i64 A 1=A+1:=aH hA om om;have e2:arith .sub .i64 B 1=B-1:=bO hA om om;obtain⟨A1,VD⟩:∃z,z=A+1:=⟨_,rfl⟩;obtain⟨B1,ZG⟩:∃z,z=B-1:=⟨_,rfl⟩;rw[<-VD]at e1;rw[<-ZG]at e2;refine hA.aU Try.func107 oK (hA.alike _ _ _ rfl) aq (zc ?_);obtain⟨h2,mm⟩:∃z,z=aG h 16:=⟨_,rfl⟩;have x2:Ext h h2:=by rw[mm];exact au hA _ _
 have t2:=t.more x2;obtain⟨HA,HB,HC,b2,g2,f2,r2⟩:=t2.read (i:=A) om om;obtain⟨sU,sV,sW,Bg,AM,uO,rY⟩:=t2.read (i:=p) om om;have q2:=aC hA r2;have FZ:=aC hA rY;rw[<-mm];obtain⟨h2c,ZF,p2,Yg,Yh⟩:=df hA t2 (i:=A) (j:=p) om om om om g2 AM
 (refine zq ?_;repeat ((first|rw[e1]|rw[e2]);refine zq ?_))
 have s2:=aJ.swap (a:=A) (b:=B) L (i:=A) (j:=p) a0 (by have:=t.len;omega) om om pa pb;have hv:gt (dJ L A p) A=gt L p:=by
  rw[jD L a0 (by have:=t.len;omega) om (by have:=t.len;omega) a0];by_cases e:A=p
  ·rw[if_pos e,e]
  ·rw[if_neg e,if_pos rfl]
 refine Rd hA dg (L0:=L) a0 bn (v:=gt L p) (fun h' L' i e t' hp i0 i1 hl=>?_) (B1+1-A1).toNat A1 B1 ZF _ (Nat.le_refl _) Yh s2 ⟨om,om,om,fun p p0 p1=>om⟩ hv;refine zc ?_;exact hQ h' L' i t' hp i0 i1 hl
theorem Re{h0 h h':af}(hl:h.low<=h.next){b sb:Nat}{v:Value}(t:xE h0 h b sb v)(x:Ext (fresh h) h'):xE h0 (aw h h') b sb v:=t.more (cG hA hl (.refl h) x)
theorem vv{h0 h:af}(aq:h0.low<=h0.next){b n c sb:Nat}{L:List LE}{i j w:Int}(i0:0<=i)(i1:i<n)(j0:0<=j)(j1:j<n)(t:bB h0 h b n L)(s:xE h0 h b sb (.int .i64 w)){Q:Value->af->Prop}
  (hQ:∀h' r q w',bB h0 h' b n L->xE h0 h' b sb (.int .i64 w')->((r=i/\q=j)\/(r=j/\q=i))->Q (.tuple #[.int .i64 r,.int .i64 q]) h'):call 127 [.slice (some ⟨b,0,none⟩) n c,.int .i64 i,.int .i64 j,.pointer (some ⟨sb,0,none⟩),.func (.func 70) #[] #[]] h Q:=by
 have dg:=aq
 replace aq:=t.ext.aD aq
 have gi:=t.gi;refine hA.aU Try.func127 x127.2 (hA.alike _ _ _ rfl) aq (zc ?_);obtain⟨h2,mm⟩:∃z,z=aG h 11:=⟨_,rfl⟩;have x2:Ext h h2:=by rw[mm];exact au hA _ _
 have t2:=t.more x2;obtain⟨HA,HB,HC,b2,g2,f2,r2⟩:=t2.read (i:=j) om om;obtain⟨sU,sV,sW,Bg,AM,uO,rY⟩:=t2.read (i:=i) om om;have q2:=aC hA r2;have FZ:=aC hA rY;rw[<-mm];have s2:=s.more x2;have l2:=t2.ext.aD dg;have aq:=dg;refine zq ?_;refine fN hA (aB hA h2) (dL hA f2) (dL hA uO) (fun u wG hu x2a=>⟨_,rfl,?_⟩);have pK:=dR hA aq t2 x2a;refine zc ?_;have s2b:=Re hA l2 s2 x2a;generalize aw h2 wG=pL at *;refine br (u<0) (by rw[aA hA]) (fun cu=>?_) (fun cu=>?_)<;>refine zc ?_
 rotate_left
 ·exact hQ pL i j w pK s2b (.inl ⟨rfl,rfl⟩)
 have r5:rd pL sb 0 1 [.int .i64 w]:=jj hA (s2b.own.aM (o:=0) (n:=1) (by simp));obtain⟨h6,p6,s6,t6⟩:=s2b.put pK (.int .i64 (arith .add .i64 w 1));have p7:wr pL sb 0 [.int .i64 (arith .add .i64 w 1)] h6:=kQ hA p6;refine zq ?_;exact hQ h6 j i _ t6 s6 (.inr ⟨rfl,rfl⟩)
theorem vw{h0 h:af}(aq:h0.low<=h0.next){b n c sb:Nat}{L:List LE}{i j k w:Int}(i0:0<=i)(i1:i<n)(j0:0<=j)(j1:j<n)(k0:0<=k)(k1:k<n)(t:bB h0 h b n L)(s:xE h0 h b sb (.int .i64 w)){Q:Value->af->Prop}
  (hQ:∀h' r w',bB h0 h' b n L->xE h0 h' b sb (.int .i64 w')->(r=i\/r=j\/r=k)->Q (.int .i64 r) h'):call 124 [.slice (some ⟨b,0,none⟩) n c,.int .i64 i,.int .i64 j,.int .i64 k,.pointer (some ⟨sb,0,none⟩),.func (.func 70) #[] #[]] h Q:=by
 have dg:=aq
 replace aq:=t.ext.aD aq
 refine hA.aU Try.func124 x124.2 (hA.alike _ _ _ rfl) aq (zc ?_);refine vv hA dg i0 i1 j0 j1 t s (fun h1 a1 b1 w1 t1 s1 q1=>⟨_,_,rfl,?_⟩);refine zc ?_;refine vv hA dg (i:=b1) (j:=k) om om k0 k1 t1 s1 (fun h2 a2 b2 w2 t2 s2 q2=>⟨_,_,rfl,?_⟩);refine zc ?_;refine vv hA dg (i:=a1) (j:=a2) om om om om t2 s2 (fun h3 a3 b3 w3 t3 s3 q3=>⟨_,_,rfl,?_⟩);refine zc ?_;exact hQ h3 b3 w3 t3 s3 om
theorem qX{h0 h:af}(aq:h0.low<=h0.next){b n c sb:Nat}{L:List LE}{i w:Int}(i0:0<i)(i1:i+1<n)(t:bB h0 h b n L)(s:xE h0 h b sb (.int .i64 w)){Q:Value->af->Prop}
  (hQ:∀h' r w',bB h0 h' b n L->xE h0 h' b sb (.int .i64 w')->(i-1<=r/\r<=i+1)->Q (.int .i64 r) h'):call 123 [.slice (some ⟨b,0,none⟩) n c,.int .i64 i,.pointer (some ⟨sb,0,none⟩),.func (.func 70) #[] #[]] h Q:=by
 have dg:=aq
 replace aq:=t.ext.aD aq
 have gi:=t.gi;refine hA.aU Try.func123 x123.2 (hA.alike _ _ _ rfl) aq (zc ?_);rw[bO hA om om,aH hA om om];refine vw hA dg om om om om om om t s (fun h1 r w1 t1 s1 q1=>⟨_,rfl,?_⟩);refine zc ?_;exact hQ h1 r w1 t1 s1 om
theorem OA{h0 h:af}(aq:h0.low<=h0.next){b n c:Nat}{L:List LE}{A B:Int}(a0:0<=A)(ab:A+12<B)(bn:B<=n)(t:bB h0 h b n L){Q:Value->af->Prop}
  (hQ:∀h' p k,bB h0 h' b n L->A<=p->p<B->Q (.tuple #[.int .i64 p,.int .i64 k]) h'):call 104 [.slice (some ⟨b,0,none⟩) n c,.int .i64 A,.int .i64 B,.func (.func 70) #[] #[]] h Q:=by
 have dg:=aq
 replace aq:=t.ext.aD aq
 have gi:=t.gi;obtain⟨l,hl⟩:∃z,z=B-A:=⟨_,rfl⟩;have e1:arith .sub .i64 B A=l:=by rw[hl];exact bO hA om om
 have e2:arith .quo .i64 l 4=l / 4:=uy hA om om om;obtain⟨q,hq⟩:∃z,z=l / 4:=⟨_,rfl⟩;rw[<-hq]at e2;have e3:arith .mul .i64 q 1=q:=by rw[jG hA om om];omega
 obtain⟨q2,Dg⟩:∃z,z=q*2:=⟨_,rfl⟩;have e4:arith .mul .i64 q 2=q2:=by rw[Dg];exact jG hA om om
 obtain⟨q3,hq3⟩:∃z,z=q*3:=⟨_,rfl⟩;have e5:arith .mul .i64 q 3=q3:=by rw[hq3];exact jG hA om om
 obtain⟨i,hi⟩:∃z,z=A+q:=⟨_,rfl⟩;have e6:arith .add .i64 A q=i:=by rw[hi];exact aH hA om om
 obtain⟨j,hj⟩:∃z,z=A+q2:=⟨_,rfl⟩;have e7:arith .add .i64 A q2=j:=by rw[hj];exact aH hA om om
 obtain⟨k,hk⟩:∃z,z=A+q3:=⟨_,rfl⟩;have e8:arith .add .i64 A q3=k:=by rw[hk];exact aH hA om om
 refine hA.aU Try.func104 x104.2 (hA.alike _ _ _ rfl) aq (zc ?_);rw[cQ hA,dB hA];have x1:Ext h (h.push 1 [Value.int .i64 0]):=.push _ _ _;have o1:=bW.push h 1 [Value.int .i64 0];have n1:(h.push 1 [Value.int .i64 0]).next=h.next+1:=rfl;generalize h.push 1 [Value.int .i64 0]=h1 at *;obtain⟨sb,Wa⟩:∃z,z=h.next:=⟨_,rfl⟩;rw[<-Wa]at o1 ⊢;have t1:=t.more x1;have s1:xE h0 h1 b sb (.int .i64 0):=⟨o1,om,by have:=t.ext.next;omega,by have:=t.lt;omega⟩
 (refine zq ?_;repeat ((first|rw[e1]|rw[e2]|rw[e3]|rw[e6]|rw[e4]|rw[e7]|rw[e5]|rw[e8]);refine zq ?_))
 refine br (8<=l) (by rw[bR hA]) (fun _=>?_) (fun z=>om)<;>refine zc ?_;have tail:∀(h5:af) (r w5:Int),bB h0 h5 b n L->xE h0 h5 b sb (.int .i64 w5)->A<=r->r<B->rd h5 sb 0 1 [.int .i64 w5]:=fun h5 r w5 t5 s5 _ _=>jj hA (s5.own.aM (o:=0) (n:=1) (by simp))
 refine br (50<=l) (by rw[bR hA]) (fun c50=>?_) (fun c50=>?_)<;>refine zc ?_
 ·refine qX hA dg (i:=i) om om t1 s1 (fun h2 i2 w2 t2 s2 m2=>⟨_,rfl,?_⟩)
  refine zc ?_;refine qX hA dg (i:=j) om om t2 s2 (fun h3 j3 w3 t3 s3 m3=>⟨_,rfl,?_⟩);refine zc ?_;refine qX hA dg (i:=k) om om t3 s3 (fun h4 k4 w4 t4 s4 m4=>⟨_,rfl,?_⟩);refine zc ?_;refine vw hA dg (i:=i2) (j:=j3) (k:=k4) om om om om om om t4 s4 (fun h5 r w5 t5 s5 m5=>⟨_,rfl,?_⟩);have r5:=tail h5 r w5 t5 s5 om om;refine zq ?_;refine br (w5=0) (by rw[dn hA]) (fun _=>?_) (fun _=>?_)<;>refine zc ?_
  ·exact hQ h5 r _ t5 om om
  refine br (w5=12) (by rw[dn hA]) (fun _=>?_) (fun _=>?_)<;>refine zc ?_
  ·exact hQ h5 r _ t5 om om
  ·exact hQ h5 r _ t5 om om
 ·refine vw hA dg (i:=i) (j:=j) (k:=k) om om om om om om t1 s1 (fun h5 r w5 t5 s5 m5=>⟨_,rfl,?_⟩)
  have r5:=tail h5 r w5 t5 s5 om om;refine zq ?_;refine br (w5=0) (by rw[dn hA]) (fun _=>?_) (fun _=>?_)<;>refine zc ?_
  ·exact hQ h5 r _ t5 om om
  refine br (w5=12) (by rw[dn hA]) (fun _=>?_) (fun _=>?_)<;>refine zc ?_
  ·exact hQ h5 r _ t5 om om
  ·exact hQ h5 r _ t5 om om
theorem OB{h0:af}(aq:h0.low<=h0.next){b n c:Nat}{L0:List LE}{A B:Int}(a0:0<=A)(bn:B<=n){Q:Exit->SS->Prop}
  (hQ:∀h' L e kn,bB h0 h' b n L->aJ A B L0 L->Q (.exit 0) ⟨e,kn,[],h'⟩) :
  ∀(m:Nat) (i j:Int) (h:af) (L:List LE),(j-i).toNat<=m->A<=i->j<B->bB h0 h b n L->aJ A B L0 L->
   head 105 2 0 ⟨[(0,.slice (some ⟨b,0,none⟩) n c),(8,.int .i64 i),(9,.int .i64 j)],0,[],h⟩ Q:=by
 intro m
 induction m with
 |zero=>
  intro i j h L hm i0 j1 t hp;refine hA.ar Try.func105 x105.2 (zc ?_);refine br (i<j) (by rw[aA hA]) (fun q=>om) (fun _=>?_)<;>refine zc ?_;exact hQ h L _ _ t hp
 |succ m ih=>
  intro i j h L hm i0 j1 t hp;have gi:=t.gi;refine hA.ar Try.func105 x105.2 (zc ?_);refine br (i<j) (by rw[aA hA]) (fun ci=>?_) (fun _=>?_)<;>refine zc ?_
  rotate_left
  ·exact hQ h L _ _ t hp
  have e1:arith .add .i64 i 1=i+1:=aH hA om om;have e2:arith .sub .i64 j 1=j-1:=bO hA om om;obtain⟨i2,Cn⟩:∃z,z=i+1:=⟨_,rfl⟩;obtain⟨j3,UF⟩:∃z,z=j-1:=⟨_,rfl⟩;rw[<-Cn]at e1;rw[<-UF]at e2;obtain⟨h5,sX⟩:∃z,z=aG h 16:=⟨_,rfl⟩;have x5:Ext h h5:=by rw[sX];exact au hA _ _
  have t5:=t.more x5;obtain⟨Q7,Q8,Q9,b5,g5,f5,r5⟩:=t5.read (i:=i) om om;obtain⟨CX,CY,CZ,Ra,Dh,Pu,C2⟩:=t5.read (i:=j) om om;have q5:=aC hA r5;have LN:=aC hA C2;rw[<-sX];obtain⟨SF,Di,p5,SG,Dj⟩:=df hA t5 (i:=i) (j:=j) om om om om g5 Dh
  (refine zq ?_;repeat ((first|rw[e1]|rw[e2]);refine zq ?_))
  exact ih i2 j3 Di _ om om om Dj (hp.trans (aJ.swap L a0 (by have:=t.len;omega) om om om om))
theorem UH{h0 h:af}(aq:h0.low<=h0.next){b n c:Nat}{L:List LE}{A B:Int}(a0:0<=A)(ab:A<=B)(bn:B<=n)(t:bB h0 h b n L){Q:Value->af->Prop}
  (hQ:∀h' L',bB h0 h' b n L'->aJ A B L L'->Q (.tuple #[]) h'):call 105 [.slice (some ⟨b,0,none⟩) n c,.int .i64 A,.int .i64 B,.func (.func 70) #[] #[]] h Q:=by
 have dg:=aq
 replace aq:=t.ext.aD aq
 have gi:=t.gi;refine hA.aU Try.func105 x105.2 (hA.alike _ _ _ rfl) aq (zc ?_);rw[bO hA om om];refine OB hA dg (L0:=L) a0 bn (fun h' L' e kn t' hp=>?_) (B-1-A).toNat A (B-1) h L (Nat.le_refl _) om om t (.refl _ _ _);refine zc ?_;exact hQ h' L' t' hp
theorem zQ{h0 h:af}{b n sb:Nat}{L:List LE}{w:Value}(t:bB h0 h b n L)(s:xE h0 h b sb w){i j:Int}(i0:0<=i)(i1:i<n)(j0:0<=j)(j1:j<n){ax ay:Option Addr}{nx cx ny cy:Nat}{x2 y2:List Int}(g1:gt L i=⟨⟨ax,nx,cx⟩,x2⟩)(g2:gt L j=⟨⟨ay,ny,cy⟩,y2⟩) :
  ∃h1 h2,wr h b (place 0 i 1) [.slice ay ny cy] h1/\wr h1 b (place 0 j 1) [.slice ax nx cx] h2/\bB h0 h2 b n (dJ L i j)/\xE h0 h2 b sb w:=by
 have o1:=t.ok i i0 i1;have o2:=t.ok j j0 j1;rw[g1]at o1;rw[g2]at o2;have key:∀{h:af} {L:List LE} {i:Int} {x:LE},0<=i->i<n->x.OK h0->bB h0 h b n L->xE h0 h b sb w->∃h',wr h b (place 0 i 1) x.cells h'/\bB h0 h' b n (L.set i.toNat x)/\xE h0 h' b sb w:=fun {h L i x} i0 i1 hx t s=>by
  obtain⟨h',w1,t1,w3⟩:=t.put i0 i1 (x:=x) hx;exact⟨h',uc hA (by rw[Nat.zero_add];exact w1),t1,⟨w3.own s.own s.ne,by rw[w3.next];exact s.lt,s.cE,s.ne⟩⟩
 obtain⟨h1,w1,t1,s1⟩:=key i0 i1 (x:=⟨⟨ay,ny,cy⟩,y2⟩) o2 t s;obtain⟨h2,w2,t2,s2⟩:=key j0 j1 (x:=⟨⟨ax,nx,cx⟩,x2⟩) o1 t1 s1;refine⟨h1,h2,w1,w2,?_,s2⟩;unfold dJ;rw[g1,g2];exact t2
theorem HE(a b:Int):0<=arith .xor .u64 a b/\arith .xor .u64 a b<18446744073709551616:=by
 rw[Xv hA,oP];omega
theorem OC{h:af}(aq:h.low<=h.next){x:Int}(hx:u64 x){Q:Value->af->Prop}(hQ:∀n:Int,isLen x n->Q (.int .i64 n) h):call 87 [.int .u64 x] h Q:=by
 refine hA.aU Try.func87 x87.2 (hA.alike _ _ _ rfl) aq (zc ?_);refine EW hA aq hx (fun n hn=>⟨_,rfl,?_⟩);refine zc ?_;exact hQ n hn
theorem OD{h:af}(aq:h.low<=h.next){l:Int}(l0:0<l)(l1:l<=100000){Q:Value->af->Prop}(hQ:∀(k:Nat) (M:Int),k<=40->M=2 ^ k->l<=M->M<=2*l->Q (.int .u64 M) h):call 121 [.int .i64 l] h Q:=by
 refine hA.aU Try.func121 x121.2 (hA.alike _ _ _ rfl) aq (zc ?_);rw[mO hA om om];refine OC hA aq (by unfold u64;omega) (fun n hn=>⟨_,rfl,?_⟩);obtain⟨n0,n1,n2⟩:=hn;obtain⟨k,hk⟩:∃k:Nat,n=k:=⟨n.toNat,om⟩;rw[hk,Int.toNat_natCast]at n1 n2;rw[show max l 1=l by omega]at n2;have Yl:k<=40:=by
  by_cases c:k<=40
  ·exact c
  ·have h1:=Nat.pow_le_pow_right (n:=2) om (show 40<=k by omega)
   have h2:((2 ^ 40:Nat):Int)<=((2 ^ k:Nat):Int):=by exact_mod_cast h1
   have h3:((2 ^ k:Nat):Int)=2 ^ k:=by push_cast;rfl
   have h4:((2 ^ 40:Nat):Int)=1099511627776:=by decide
   omega
 have es:arith .shl .u64 1 n=2 ^ k:=by
  rw[Hj hA 1 k om hk,Int.one_mul];exact Int.emod_eq_of_lt (Int.le_of_lt (Int.pow_pos om)) om
 obtain⟨M,hM⟩:∃z:Int,z=2 ^ k:=⟨_,rfl⟩;rw[<-hM]at es n1 n2;refine zq ?_;rw[es];exact hQ k M Yl hM (Int.le_of_lt n1) n2
theorem Rf{h0 h:af}(aq:h0.low<=h0.next){b n sb:Nat}{L:List LE}{w:Int}(t:bB h0 h b n L)(s:xE h0 h b sb (.int .u64 w)){Q:Value->af->Prop}
  (hQ:∀h' r w',u64 r->bB h0 h' b n L->xE h0 h' b sb (.int .u64 w')->Q (.int .u64 r) h'):call 122 [.pointer (some ⟨sb,0,none⟩)] h Q:=by
 have dg:=aq
 replace aq:=t.ext.aD aq
 refine hA.aU Try.func122 x122.2 (hA.alike _ _ _ rfl) aq (zc ?_);obtain⟨g0,hg0⟩:∃z,z=aG h 10:=⟨_,rfl⟩;have x0:Ext h g0:=by rw[hg0];exact au hA _ _
 have t0:=t.more x0;have s0:=s.more x0;rw[<-hg0];obtain⟨w0,kH⟩:∃z,z=arith .xor .u64 w (arith .shl .u64 w 13):=⟨_,rfl⟩;have b0:=HE hA w (arith .shl .u64 w 13);have r0:rd g0 sb 0 1 [.int .u64 w]:=jj hA (s0.own.aM (o:=0) (n:=1) (by simp));obtain⟨y0,p0,s0',t0'⟩:=s0.put t0 (.int .u64 w0);have p0':wr g0 sb 0 [.int .u64 w0] y0:=kQ hA p0;rw[kH]at p0';refine zq ?_;rw[<-kH]at b0;obtain⟨g1,Va⟩:∃z,z=aG y0 10:=⟨_,rfl⟩;have x1:Ext y0 g1:=by rw[Va];exact au hA _ _
 have t1:=t0'.more x1;have s1:=s0'.more x1;rw[<-Va];obtain⟨w1,py⟩:∃z,z=arith .xor .u64 w0 (arith .shr .u64 w0 7):=⟨_,rfl⟩;have b1:=HE hA w0 (arith .shr .u64 w0 7);have r1:rd g1 sb 0 1 [.int .u64 w0]:=jj hA (s1.own.aM (o:=0) (n:=1) (by simp));obtain⟨y1,p1,s1',t1'⟩:=s1.put t1 (.int .u64 w1);have p1':wr g1 sb 0 [.int .u64 w1] y1:=kQ hA p1;rw[py]at p1';refine zq ?_;rw[<-py]at b1;obtain⟨g2,Vb⟩:∃z,z=aG y1 10:=⟨_,rfl⟩;have x2:Ext y1 g2:=by rw[Vb];exact au hA _ _
 have t2:=t1'.more x2;have s2:=s1'.more x2;rw[<-Vb];obtain⟨w2,n8⟩:∃z,z=arith .xor .u64 w1 (arith .shl .u64 w1 17):=⟨_,rfl⟩;have b2:=HE hA w1 (arith .shl .u64 w1 17);have r2:rd g2 sb 0 1 [.int .u64 w1]:=jj hA (s2.own.aM (o:=0) (n:=1) (by simp));obtain⟨y2,p2,PN,t2'⟩:=s2.put t2 (.int .u64 w2);have Yg:wr g2 sb 0 [.int .u64 w2] y2:=kQ hA p2;rw[n8]at Yg;refine zq ?_;rw[<-n8]at b2;have r9:rd y2 sb 0 1 [.int .u64 w2]:=jj hA (PN.own.aM (o:=0) (n:=1) (by simp));refine zq ?_;exact hQ y2 w2 w2 ⟨b2.1,b2.2⟩ t2' PN
theorem HF{h0:af}(aq:h0.low<=h0.next){b n c sb k:Nat}{L0:List LE}{A B l:Int}(a0:0<=A)(ab:A+12<B)(bn:B<=n)(hl:l=B-A){M:Int}(Yl:k<=40)(hM:M=2 ^ k)(k0:l<=M)(k1:M<=2*l){Q:Exit->SS->Prop}
  (hQ:∀h' L e kn,bB h0 h' b n L->aJ A B L0 L->Q (.exit 0) ⟨e,kn,[],h'⟩) :
  ∀(m:Nat) (i:Int) (h:af) (L:List LE) (w:Int),(A+l / 4*2+3-i).toNat<=m->i<=A+l / 4*2+2->A+l / 4*2-1<=i->bB h0 h b n L->aJ A B L0 L->xE h0 h b sb (.int .u64 w)->
   head 103 5 0 ⟨[(0,.slice (some ⟨b,0,none⟩) n c),(1,.int .i64 A),(8,.int .i64 l),(9,.pointer (some ⟨sb,0,none⟩)),(10,.int .u64 M),(11,.int .i64 i)],0,[],h⟩ Q:=by
 intro m
 induction m with
 |zero=>intro i h L w hm i9 i0 t hp s;omega
 |succ m ih=>
 intro i h L w hm i9 i0 t hp s;have gi:=t.gi;have e2:arith .quo .i64 l 4=l / 4:=uy hA om om om;obtain⟨q,hq⟩:∃z,z=l / 4:=⟨_,rfl⟩;rw[<-hq]at e2 hm i0 i9;obtain⟨q2,Dg⟩:∃z,z=q*2:=⟨_,rfl⟩;have e4:arith .mul .i64 q 2=q2:=by rw[Dg];exact jG hA om om
 rw[<-Dg]at hm i0 i9;obtain⟨j,hj⟩:∃z,z=A+q2:=⟨_,rfl⟩;have e7:arith .add .i64 A q2=j:=by rw[hj];exact aH hA om om
 obtain⟨j1,hj1⟩:∃z,z=j+1:=⟨_,rfl⟩;have e8:arith .add .i64 j 1=j1:=by rw[hj1];exact aH hA om om
 refine hA.ar Try.func103 x103.2 (zc ?_)
 (refine zq ?_;repeat ((first|rw[e2]|rw[e4]|rw[e7]|rw[e8]);refine zq ?_))
 refine br (i<=j1) (by rw[jO hA]) (fun ci=>?_) (fun _=>?_)<;>refine zc ?_
 rotate_left
 ·exact hQ h L _ _ t hp
 refine Rf hA aq t s (fun h1 r w1 hr t1 s1=>⟨_,rfl,?_⟩);obtain⟨M1,hM1⟩:∃z,z=M-1:=⟨_,rfl⟩;have e9:arith .sub .u64 M 1=M1:=by rw[hM1];exact wF hA om om
 have eA:arith .and .u64 r M1=r % M:=by rw[I4 hA hr.1 hr.2 k om (by rw[hM1,hM]),hM]
 obtain⟨o,ho⟩:∃z,z=r % M:=⟨_,rfl⟩;have o0:0<=o:=by rw[ho];exact Int.emod_nonneg _ om
 have o1:o<M:=by rw[ho];exact Int.emod_lt_of_pos _ om
 rw[<-ho]at eA;have eC:conv .i64 o=o:=kJ hA om om;refine zc ?_;rw[e9,eA,eC];have e5:arith .add .i64 i 1=i+1:=aH hA om om;obtain⟨i1,hi1⟩:∃z,z=i+1:=⟨_,rfl⟩;rw[<-hi1]at e5;have go:∀o:Int,0<=o->o<l->∃x:Int,x=A+o/\0<=x/\A<=x/\x<B/\x<n/\arith .add .i64 A o=x:=fun o p1 p2=>⟨A+o,rfl,om,om,om,om,aH hA om om⟩
 refine br (l<=o) (by rw[bR hA]) (fun co=>?_) (fun co=>?_)<;>refine zc ?_
 ·have eS:arith .sub .i64 o l=o-l:=bO hA om om
  obtain⟨o',my⟩:∃z,z=o-l:=⟨_,rfl⟩;rw[<-my]at eS;rw[eS];obtain⟨x,hx,x0,xA,xB,xn,eX⟩:=go o' om om;obtain⟨h5,sX⟩:∃z,z=aG h1 20:=⟨_,rfl⟩;have x5:Ext h1 h5:=by rw[sX];exact au hA _ _
  have t5:=t1.more x5;obtain⟨Q7,Q8,Q9,b5,g5,f5,r5⟩:=t5.read (i:=i) om om;obtain⟨CX,CY,CZ,Ra,Dh,Pu,C2⟩:=t5.read (i:=x) om om;have q5:=aC hA r5;have LN:=aC hA C2;rw[<-sX];obtain⟨SF,Di,p5,SG,Dj,s5d⟩:=zQ hA t5 (s1.more x5) (i:=i) (j:=x) om om om om g5 Dh
  (refine zq ?_;repeat ((first|rw[eX]|rw[e5]);refine zq ?_))
  exact ih i1 Di _ w1 om om om Dj (hp.trans (aJ.swap L a0 (by have:=t.len;omega) om om om om)) s5d
 ·obtain⟨x,hx,x0,xA,xB,xn,eX⟩:=go o om om
  obtain⟨h5,sX⟩:∃z,z=aG h1 20:=⟨_,rfl⟩;have x5:Ext h1 h5:=by rw[sX];exact au hA _ _
  have t5:=t1.more x5;obtain⟨Q7,Q8,Q9,b5,g5,f5,r5⟩:=t5.read (i:=i) om om;obtain⟨CX,CY,CZ,Ra,Dh,Pu,C2⟩:=t5.read (i:=x) om om;have q5:=aC hA r5;have LN:=aC hA C2;rw[<-sX];obtain⟨SF,Di,p5,SG,Dj,s5d⟩:=zQ hA t5 (s1.more x5) (i:=i) (j:=x) om om om om g5 Dh
  (refine zq ?_;repeat ((first|rw[eX]|rw[e5]);refine zq ?_))
  exact ih i1 Di _ w1 om om om Dj (hp.trans (aJ.swap L a0 (by have:=t.len;omega) om om om om)) s5d
theorem OE{h0 h:af}(aq:h0.low<=h0.next){b n c:Nat}{L:List LE}{A B:Int}(a0:0<=A)(ab:A+12<B)(bn:B<=n)(t:bB h0 h b n L){Q:Value->af->Prop}
  (hQ:∀h' L',bB h0 h' b n L'->aJ A B L L'->Q (.tuple #[]) h'):call 103 [.slice (some ⟨b,0,none⟩) n c,.int .i64 A,.int .i64 B,.func (.func 70) #[] #[]] h Q:=by
 have dg:=aq
 replace aq:=t.ext.aD aq
 have gi:=t.gi;refine hA.aU Try.func103 x103.2 (hA.alike _ _ _ rfl) aq (zc ?_);obtain⟨l,hl⟩:∃z,z=B-A:=⟨_,rfl⟩;have e1:arith .sub .i64 B A=l:=by rw[hl];exact bO hA om om
 rw[e1];have e2:arith .quo .i64 l 4=l / 4:=uy hA om om om;obtain⟨q,hq⟩:∃z,z=l / 4:=⟨_,rfl⟩;rw[<-hq]at e2;obtain⟨q2,Dg⟩:∃z,z=q*2:=⟨_,rfl⟩;have e4:arith .mul .i64 q 2=q2:=by rw[Dg];exact jG hA om om
 obtain⟨j,hj⟩:∃z,z=A+q2:=⟨_,rfl⟩;have e7:arith .add .i64 A q2=j:=by rw[hj];exact aH hA om om
 obtain⟨j1,hj1⟩:∃z,z=j-1:=⟨_,rfl⟩;have e8:arith .sub .i64 j 1=j1:=by rw[hj1];exact bO hA om om
 refine br (8<=l) (by rw[bR hA]) (fun _=>?_) (fun z=>om)<;>refine zc ?_;rw[cQ hA,dB hA,mO hA om om];have x1:Ext h (h.push 1 [Value.int .u64 0]):=.push _ _ _;have o1:=bW.push h 1 [Value.int .u64 0];have n1:(h.push 1 [Value.int .u64 0]).next=h.next+1:=rfl;generalize h.push 1 [Value.int .u64 0]=h1 at *;obtain⟨sb,Wa⟩:∃z,z=h.next:=⟨_,rfl⟩;rw[<-Wa]at o1 ⊢;have t1:=t.more x1;have s1:xE h0 h1 b sb (.int .u64 0):=⟨o1,om,by have:=t.ext.next;omega,by have:=t.lt;omega⟩;obtain⟨h2,p2,s2,t2⟩:=s1.put t1 (.int .u64 l);have Yg:wr h1 sb 0 [.int .u64 l] h2:=kQ hA p2;refine zq ?_;have aq:=t2.ext.aD dg;refine OD hA aq om om (fun k M Yl hM m0 m1=>⟨_,rfl,?_⟩)
 (refine zq ?_;repeat ((first|rw[e2]|rw[e4]|rw[e7]|rw[e8]);refine zq ?_))
 refine HF hA dg (L0:=L) (c:=c) (l:=l) (B:=B) (M:=M) (k:=k) a0 ab bn hl Yl hM m0 m1 (fun h' L' e kn t' hp=>?_) (A+l / 4*2+3-j1).toNat j1 h2 L l (Nat.le_refl _) om om t2 (.refl _ _ _) s2;refine zc ?_;exact hQ h' L' t' hp
theorem aa1{h0:af}(aq:h0.low<=h0.next){b n c:Nat}{L:List LE}{A B j:Int}(a0:0<=A)(bn:B<=n){Q:Exit->SS->Prop}
  (hQ:∀h' i,bB h0 h' b n L->A+1<=i->i<=B->aI gN L A i->Q (.exit 2) ⟨[(0,.slice (some ⟨b,0,none⟩) n c),(1,.int .i64 A),(2,.int .i64 B),(3,.func (.func 70) #[] #[]),(9,.int .i64 i),(10,.int .i64 j)],18,[],h'⟩) :
  ∀(m:Nat) (i:Int) (h:af),(B-i).toNat<=m->A+1<=i->i<=B->bB h0 h b n L->aI gN L A i->
   head 106 5 0 ⟨[(0,.slice (some ⟨b,0,none⟩) n c),(1,.int .i64 A),(2,.int .i64 B),(3,.func (.func 70) #[] #[]),(9,.int .i64 i),(10,.int .i64 j)],0,[],h⟩ Q:=by
 intro m
 induction m with
 |zero=>
  intro i h hm i0 i1 t hs;refine hA.ar Try.func106 jA (zc ?_);refine br (i<B) (by rw[aA hA]) (fun q=>om) (fun q=>?_)<;>refine zc ?_;exact hQ _ i (t.more (au hA _ _)) i0 i1 hs
 |succ m ih=>
  intro i h hm i0 i1 t hs;have gi:=t.gi;refine hA.ar Try.func106 jA (zc ?_);refine br (i<B) (by rw[aA hA]) (fun ci=>?_) (fun q=>?_)<;>refine zc ?_
  rotate_left
  ·exact hQ _ i (t.more (au hA _ _)) i0 i1 hs
  obtain⟨i',FM⟩:∃z,z=i-1:=⟨_,rfl⟩;have e1:arith .sub .i64 i 1=i':=by rw[FM];exact bO hA om om
  have e2:arith .add .i64 i 1=i+1:=aH hA om om;obtain⟨h2,mm⟩:∃z,z=aG h 18:=⟨_,rfl⟩;have x2:Ext h h2:=by rw[mm];exact au hA _ _
  have t2:=t.more x2;obtain⟨HA,HB,HC,b2,g2,f2,r2⟩:=t2.read (i:=i) om om;obtain⟨sU,sV,sW,Bg,AM,uO,rY⟩:=t2.read (i:=i') om om;have q2:=aC hA r2;have FZ:=aC hA rY;rw[<-mm]
  (refine zq ?_;repeat ((first|rw[e1]);refine zq ?_))
  refine fN hA (aB hA h2) (dL hA f2) (dL hA uO) (fun u wG hu x2a=>⟨_,rfl,?_⟩);have pK:=dR hA aq t2 x2a;refine zc ?_;generalize aw h2 wG=pL at *;refine br (0<=u) (by rw[dk hA,aA hA];by_cases z:u<0<;>simp[z]<;>omega) (fun cu=>?_) (fun cu=>?_)<;>refine zc ?_
  ·rw[hu]at cu
   rw[e2];exact ih (i+1) pL om om om pK (hs.next eE om (by rw[<-FM];exact LL.not_lt.1 (fun w=>by have:=cU.2 w;omega)))
  ·exact hQ pL i pK i0 i1 hs
theorem OF{h0:af}(aq:h0.low<=h0.next){b n c:Nat}{L0:List LE}{A B i j:Int}(a0:0<=A)(bn:B<=n)(ai:A+2<=i)(ib:i<B)(ov:uE L0 A B){Q:Exit->SS->Prop}
  (hQ:∀h' L kn,kn=36\/kn=49->bB h0 h' b n L->aJ A B L0 L->aI gN L A i->Q (.exit 4) ⟨[(0,.slice (some ⟨b,0,none⟩) n c),(1,.int .i64 A),(2,.int .i64 B),(3,.func (.func 70) #[] #[]),(9,.int .i64 i),(10,.int .i64 j)],kn,[],h'⟩) {h:af} {L:List LE} (t:bB h0 h b n L) (hp:aJ A B L0 L) (hI:pA gN L A (i-1) A) :
   head 106 14 36 ⟨[(0,.slice (some ⟨b,0,none⟩) n c),(1,.int .i64 A),(2,.int .i64 B),(3,.func (.func 70) #[] #[]),(9,.int .i64 i),(10,.int .i64 j),(11,.int .i64 A)],36,[],h⟩ Q:=by
  obtain⟨k,hk⟩:∃z,z=A:=⟨_,rfl⟩;have gi:=t.gi;show head 106 14 36 ⟨[(0,.slice (some ⟨b,0,none⟩) n c),(1,.int .i64 A),(2,.int .i64 B),(3,.func (.func 70) #[] #[]),(9,.int .i64 i),(10,.int .i64 j),(11,.int .i64 A)],36,[],h⟩ Q;rw[show((11,Value.int .i64 A):Nat×Value)=(11,.int .i64 k) by rw[hk]];rw[<-hk]at hI;have k0:A<=k:=om
  refine hA.ar Try.func106 jA (zc ?_);refine br (1<=k) (by rw[bR hA]) (fun ck=>?_) (fun q=>?_)<;>refine zc ?_
  rotate_left
  ·exact hQ _ _ _ (.inl rfl) t hp (by subst hk;have:=hI.first;rwa [show i-1+1=i by omega]at this)
  obtain⟨k',EA⟩:∃z,z=k-1:=⟨_,rfl⟩;have e1:arith .sub .i64 k 1=k':=by rw[EA];exact bO hA om om
  obtain⟨h2,mm⟩:∃z,z=aG h 13:=⟨_,rfl⟩;have x2:Ext h h2:=by rw[mm];exact au hA _ _
  have t2:=t.more x2;obtain⟨HA,HB,HC,b2,g2,f2,r2⟩:=t2.read (i:=k) om om;obtain⟨sU,sV,sW,Bg,AM,uO,rY⟩:=t2.read (i:=k') om om;have q2:=aC hA r2;have FZ:=aC hA rY;rw[<-mm]
  (refine zq ?_;repeat ((first|rw[e1]);refine zq ?_))
  refine fN hA (aB hA h2) (dL hA f2) (dL hA uO) (fun u wG hu x2a=>⟨_,rfl,?_⟩);have pK:=dR hA aq t2 x2a;refine zc ?_;generalize aw h2 wG=pL at *;refine br (0<=u) (by rw[dk hA,aA hA];by_cases z:u<0<;>simp[z]<;>omega) (fun cu=>?_) (fun cu=>?_)<;>refine zc ?_
  rotate_left
  ·exfalso
   have:=(ov.perm a0 hp).resolve_left om k om om;rw[show A-1=k' by omega]at this;rw[hu]at cu;exact absurd (cU.1 (show gn (gt L k).q (gt L k').q<0 by omega)) (LL.not_lt.2 this)
  ·exact hQ _ _ _ (.inr rfl) pK hp (by subst hk;have:=hI.first;rwa [show i-1+1=i by omega]at this)
theorem Ym{h0:af}(aq:h0.low<=h0.next){b n c:Nat}{L0:List LE}{A B i j:Int}(a0:0<=A)(bn:B<=n)(ai:A+2<=i)(ib:i<B)(ov:uE L0 A B){Q:Exit->SS->Prop}
  (hQ:∀h' L kn,kn=36\/kn=49->bB h0 h' b n L->aJ A B L0 L->aI gN L A i->Q (.exit 4) ⟨[(0,.slice (some ⟨b,0,none⟩) n c),(1,.int .i64 A),(2,.int .i64 B),(3,.func (.func 70) #[] #[]),(9,.int .i64 i),(10,.int .i64 j)],kn,[],h'⟩) :
  ∀(m:Nat) (k:Int) (h:af) (L:List LE),(k-A).toNat<=m->A<=k->k<=i-1->bB h0 h b n L->aJ A B L0 L->pA gN L A (i-1) k->
   head 106 14 36 ⟨[(0,.slice (some ⟨b,0,none⟩) n c),(1,.int .i64 A),(2,.int .i64 B),(3,.func (.func 70) #[] #[]),(9,.int .i64 i),(10,.int .i64 j),(11,.int .i64 k)],36,[],h⟩ Q:=by
 intro m
 induction m with
 |zero=>
  intro k h L hm k0 k1 t hp hI;obtain rfl:k=A:=om
  exact OF hA aq a0 bn ai ib ov hQ t hp hI
 |succ m ih=>
  intro k h L hm k0 k1 t hp hI;have gi:=t.gi;by_cases ck:A<k
  rotate_left
  ·obtain rfl:k=A:=om
   exact OF hA aq a0 bn ai ib ov hQ t hp hI
  refine hA.ar Try.func106 jA (zc ?_);refine br (1<=k) (by rw[bR hA]) (fun _=>?_) (fun q=>om)<;>refine zc ?_;obtain⟨k',EA⟩:∃z,z=k-1:=⟨_,rfl⟩;have e1:arith .sub .i64 k 1=k':=by rw[EA];exact bO hA om om
  obtain⟨h2,mm⟩:∃z,z=aG h 13:=⟨_,rfl⟩;have x2:Ext h h2:=by rw[mm];exact au hA _ _
  have t2:=t.more x2;obtain⟨HA,HB,HC,b2,g2,f2,r2⟩:=t2.read (i:=k) om om;obtain⟨sU,sV,sW,Bg,AM,uO,rY⟩:=t2.read (i:=k') om om;have q2:=aC hA r2;have FZ:=aC hA rY;rw[<-mm]
  (refine zq ?_;repeat ((first|rw[e1]);refine zq ?_))
  refine fN hA (aB hA h2) (dL hA f2) (dL hA uO) (fun u wG hu x2a=>⟨_,rfl,?_⟩);have pK:=dR hA aq t2 x2a;refine zc ?_;generalize aw h2 wG=pL at *;refine br (0<=u) (by rw[dk hA,aA hA];by_cases z:u<0<;>simp[z]<;>omega) (fun cu=>?_) (fun cu=>?_)<;>refine zc ?_
  ·rw[hu]at cu
   exact hQ _ _ _ (.inr rfl) pK hp (by have:=hI.stop eE ck (by rw[<-EA];exact LL.not_lt.1 (fun w=>by have:=cU.2 w;omega));rwa [show i-1+1=i by omega]at this)
  ·rw[hu]at cu
   have w:¬gN (gt L (k-1)) (gt L k):=by rw[<-EA];exact LL.not_le.2 (cU.1 (show gn (gt L k).q (gt L k').q<0 by omega))
   obtain⟨h5,sX⟩:∃z,z=aG pL 18:=⟨_,rfl⟩;have x5:Ext pL h5:=by rw[sX];exact au hA _ _
   have t5:=pK.more x5;obtain⟨Q7,Q8,Q9,b5,g5,f5,r5⟩:=t5.read (i:=k) om om;obtain⟨CX,CY,CZ,Ra,Dh,Pu,C2⟩:=t5.read (i:=k') om om;have q5:=aC hA r5;have LN:=aC hA C2;rw[<-sX];obtain⟨SF,Di,p5,SG,Dj⟩:=df hA t5 (i:=k) (j:=k') om om om om g5 Dh
   (refine zq ?_;repeat ((first|rw[e1]);refine zq ?_))
   refine ih k' Di _ om om om Dj (hp.trans (aJ.swap L om (by rw[t.len];exact bn) om om om om)) ?_;have:=hI.step eE om (by rw[t.len];omega) ck k1 w;rw[<-EA]at this;exact this
theorem OG{h0:af}(aq:h0.low<=h0.next){b n c:Nat}{L0:List LE}{A B i j:Int}(a0:0<=A)(bn:B<=n)(ai:A<i)(ib:i<B){Q:Exit->SS->Prop}
  (hQ:∀h' L kn,bB h0 h' b n L->aJ i B L0 L->Q (.exit 6) ⟨[(0,.slice (some ⟨b,0,none⟩) n c),(1,.int .i64 A),(2,.int .i64 B),(3,.func (.func 70) #[] #[]),(9,.int .i64 i),(10,.int .i64 j)],kn,[],h'⟩) :
  ∀(m:Nat) (k:Int) (h:af) (L:List LE),(B-k).toNat<=m->i+1<=k->bB h0 h b n L->aJ i B L0 L->
   head 106 20 36 ⟨[(0,.slice (some ⟨b,0,none⟩) n c),(1,.int .i64 A),(2,.int .i64 B),(3,.func (.func 70) #[] #[]),(9,.int .i64 i),(10,.int .i64 j),(12,.int .i64 k)],36,[],h⟩ Q:=by
 intro m
 induction m with
 |zero=>
  intro k h L hm k0 t hp;refine hA.ar Try.func106 jA (zc ?_);refine br (k<B) (by rw[aA hA]) (fun q=>om) (fun q=>?_)<;>refine zc ?_;exact hQ _ _ _ t hp
 |succ m ih=>
  intro k h L hm k0 t hp;have gi:=t.gi;refine hA.ar Try.func106 jA (zc ?_);refine br (k<B) (by rw[aA hA]) (fun ck=>?_) (fun q=>?_)<;>refine zc ?_
  rotate_left
  ·exact hQ _ _ _ t hp
  obtain⟨k',EA⟩:∃z,z=k-1:=⟨_,rfl⟩;have e1:arith .sub .i64 k 1=k':=by rw[EA];exact bO hA om om
  have e2:arith .add .i64 k 1=k+1:=aH hA om om;obtain⟨k1,FJ⟩:∃z,z=k+1:=⟨_,rfl⟩;rw[<-FJ]at e2;obtain⟨h2,mm⟩:∃z,z=aG h 13:=⟨_,rfl⟩;have x2:Ext h h2:=by rw[mm];exact au hA _ _
  have t2:=t.more x2;obtain⟨HA,HB,HC,b2,g2,f2,r2⟩:=t2.read (i:=k) om om;obtain⟨sU,sV,sW,Bg,AM,uO,rY⟩:=t2.read (i:=k') om om;have q2:=aC hA r2;have FZ:=aC hA rY;rw[<-mm]
  (refine zq ?_;repeat ((first|rw[e1]);refine zq ?_))
  refine fN hA (aB hA h2) (dL hA f2) (dL hA uO) (fun u wG hu x2a=>⟨_,rfl,?_⟩);have pK:=dR hA aq t2 x2a;refine zc ?_;generalize aw h2 wG=pL at *;refine br (0<=u) (by rw[dk hA,aA hA];by_cases z:u<0<;>simp[z]<;>omega) (fun cu=>?_) (fun cu=>?_)<;>refine zc ?_
  ·exact hQ _ _ _ pK hp
  ·skip
   obtain⟨h5,sX⟩:∃z,z=aG pL 18:=⟨_,rfl⟩;have x5:Ext pL h5:=by rw[sX];exact au hA _ _
   have t5:=pK.more x5;obtain⟨Q7,Q8,Q9,b5,g5,f5,r5⟩:=t5.read (i:=k) om om;obtain⟨CX,CY,CZ,Ra,Dh,Pu,C2⟩:=t5.read (i:=k') om om;have q5:=aC hA r5;have LN:=aC hA C2;rw[<-sX];obtain⟨SF,Di,p5,SG,Dj⟩:=df hA t5 (i:=k) (j:=k') om om om om g5 Dh
   (refine zq ?_;repeat ((first|rw[e1]|rw[e2]);refine zq ?_))
   exact ih k1 Di _ om om Dj (hp.trans (aJ.swap L om (by rw[t.len];exact bn) om om om om))
theorem UI{h0:af}(aq:h0.low<=h0.next){b n c:Nat}{L0:List LE}{A B i j:Int}(a0:0<=A)(bn:B<=n)(ai:A<i)(ib:i<B){Q:Exit->SS->Prop}
  (hQ:∀h' L kn,bB h0 h' b n L->aJ i B L0 L->Q (.exit 6) ⟨[(0,.slice (some ⟨b,0,none⟩) n c),(1,.int .i64 A),(2,.int .i64 B),(3,.func (.func 70) #[] #[]),(9,.int .i64 i),(10,.int .i64 j)],kn,[],h'⟩) :
  ∀(m:Nat) (k:Int) (h:af) (L:List LE),(B-k).toNat<=m->i+1<=k->bB h0 h b n L->aJ i B L0 L->
   head 106 20 49 ⟨[(0,.slice (some ⟨b,0,none⟩) n c),(1,.int .i64 A),(2,.int .i64 B),(3,.func (.func 70) #[] #[]),(9,.int .i64 i),(10,.int .i64 j),(12,.int .i64 k)],49,[],h⟩ Q:=by
 intro m
 induction m with
 |zero=>
  intro k h L hm k0 t hp;refine hA.ar Try.func106 jA (zc ?_);refine br (k<B) (by rw[aA hA]) (fun q=>om) (fun q=>?_)<;>refine zc ?_;exact hQ _ _ _ t hp
 |succ m ih=>
  intro k h L hm k0 t hp;have gi:=t.gi;refine hA.ar Try.func106 jA (zc ?_);refine br (k<B) (by rw[aA hA]) (fun ck=>?_) (fun q=>?_)<;>refine zc ?_
  rotate_left
  ·exact hQ _ _ _ t hp
  obtain⟨k',EA⟩:∃z,z=k-1:=⟨_,rfl⟩;have e1:arith .sub .i64 k 1=k':=by rw[EA];exact bO hA om om
  have e2:arith .add .i64 k 1=k+1:=aH hA om om;obtain⟨k1,FJ⟩:∃z,z=k+1:=⟨_,rfl⟩;rw[<-FJ]at e2;obtain⟨h2,mm⟩:∃z,z=aG h 13:=⟨_,rfl⟩;have x2:Ext h h2:=by rw[mm];exact au hA _ _
  have t2:=t.more x2;obtain⟨HA,HB,HC,b2,g2,f2,r2⟩:=t2.read (i:=k) om om;obtain⟨sU,sV,sW,Bg,AM,uO,rY⟩:=t2.read (i:=k') om om;have q2:=aC hA r2;have FZ:=aC hA rY;rw[<-mm]
  (refine zq ?_;repeat ((first|rw[e1]);refine zq ?_))
  refine fN hA (aB hA h2) (dL hA f2) (dL hA uO) (fun u wG hu x2a=>⟨_,rfl,?_⟩);have pK:=dR hA aq t2 x2a;refine zc ?_;generalize aw h2 wG=pL at *;refine br (0<=u) (by rw[dk hA,aA hA];by_cases z:u<0<;>simp[z]<;>omega) (fun cu=>?_) (fun cu=>?_)<;>refine zc ?_
  ·exact hQ _ _ _ pK hp
  ·skip
   obtain⟨h5,sX⟩:∃z,z=aG pL 18:=⟨_,rfl⟩;have x5:Ext pL h5:=by rw[sX];exact au hA _ _
   have t5:=pK.more x5;obtain⟨Q7,Q8,Q9,b5,g5,f5,r5⟩:=t5.read (i:=k) om om;obtain⟨CX,CY,CZ,Ra,Dh,Pu,C2⟩:=t5.read (i:=k') om om;have q5:=aC hA r5;have LN:=aC hA C2;rw[<-sX];obtain⟨SF,Di,p5,SG,Dj⟩:=df hA t5 (i:=k) (j:=k') om om om om g5 Dh
   (refine zq ?_;repeat ((first|rw[e1]|rw[e2]);refine zq ?_))
   exact ih k1 Di _ om om Dj (hp.trans (aJ.swap L om (by rw[t.len];exact bn) om om om om))
theorem aa2{h0:af}(aq:h0.low<=h0.next){b n c:Nat}{L0:List LE}{A B:Int}(a0:0<=A)(ab:A+12<B)(bn:B<=n)(ov:uE L0 A B){Q:Exit->SS->Prop}
  (hQ:∀h' L u e kn,bB h0 h' b n L->aJ A B L0 L->(u=true->aI gN L A B)->Q .ret ⟨(8,.bool u) :: e,kn,[],h'⟩) (VA:∀h' L kn,bB h0 h' b n L->aJ A B L0 L->Q (.exit 0) ⟨[],kn,[],h'⟩) :
  ∀(m:Nat) (j i:Int) (h:af) (L:List LE),(5-j).toNat<=m->0<=j->A+1<=i->i<=B->bB h0 h b n L->aJ A B L0 L->aI gN L A i->
   head 106 3 0 ⟨[(0,.slice (some ⟨b,0,none⟩) n c),(1,.int .i64 A),(2,.int .i64 B),(3,.func (.func 70) #[] #[]),(9,.int .i64 i),(10,.int .i64 j)],0,[],h⟩ Q:=by
 intro m
 induction m with
 |zero=>
  intro j i h L hm j0 i0 i1 t hp hs;refine hA.ar Try.func106 jA (zc ?_);refine br (j<5) (by rw[aA hA]) (fun q=>om) (fun q=>?_)<;>refine zc ?_;exact VA _ _ _ t hp
 |succ m ih=>
  intro j i h L hm j0 i0 i1 t hp hs;have gi:=t.gi;refine hA.ar Try.func106 jA (zc ?_);refine br (j<5) (by rw[aA hA]) (fun cj=>?_) (fun q=>?_)<;>refine zc ?_
  rotate_left
  ·exact VA _ _ _ t hp
  refine aa1 hA aq a0 bn (fun h1 i' t1 i2 i3 gm=>?_) (B-i).toNat i h (Nat.le_refl _) i0 i1 t hs;refine zc ?_;refine br (i'=B) (by rw[dn hA]) (fun ci=>?_) (fun ci=>?_)<;>refine zc ?_
  ·subst ci
   exact hQ _ _ true _ _ t1 hp (fun _=>gm)
  have e1:arith .sub .i64 B A=B-A:=bO hA om om;rw[e1];refine br (B-A<50) (by rw[aA hA]) (fun cb=>?_) (fun cb=>?_)<;>refine zc ?_
  ·exact hQ _ _ false _ _ t1 hp (fun z=>by cases z)
  obtain⟨k',EA⟩:∃z,z=i'-1:=⟨_,rfl⟩;have e2:arith .sub .i64 i' 1=k':=by rw[EA];exact bO hA om om
  obtain⟨h5,sX⟩:∃z,z=aG h1 18:=⟨_,rfl⟩;have x5:Ext h1 h5:=by rw[sX];exact au hA _ _
  have t5:=t1.more x5;obtain⟨Q7,Q8,Q9,b5,g5,f5,r5⟩:=t5.read (i:=i') om om;obtain⟨CX,CY,CZ,Ra,Dh,Pu,C2⟩:=t5.read (i:=k') om om;have q5:=aC hA r5;have LN:=aC hA C2;rw[<-sX];obtain⟨SF,Di,p5,SG,Dj⟩:=df hA t5 (i:=i') (j:=k') om om om om g5 Dh
  (refine zq ?_;repeat ((first|rw[e2]);refine zq ?_))
  have e3:arith .sub .i64 i' A=i'-A:=bO hA om om;have e4:arith .sub .i64 B i'=B-i':=bO hA om om;have e5:arith .add .i64 i' 1=i'+1:=aH hA om om;have e6:arith .add .i64 j 1=j+1:=aH hA om om;have hp5:aJ A B L0 (dJ L i' k'):=hp.trans (aJ.swap L a0 (by rw[t.len];exact bn) om om om om);have hs5:aI gN (dJ L i' k') A k':=(gm.less (Int.le_refl _) om).same (fun q q0 q1=>by rw[jD L om (by have:=t.len;omega) om (by have:=t.len;omega) om,if_neg om,if_neg om]);generalize dJ L i' k'=L5 at *;have go:∀h' L',bB h0 h' b n L'->aJ A B L0 L'->aI gN L' A i'->head 106 3 0 ⟨[(0,.slice (some ⟨b,0,none⟩) n c),(1,.int .i64 A),(2,.int .i64 B),(3,.func (.func 70) #[] #[]),(9,.int .i64 i'),(10,.int .i64 (j+1))],0,[],h'⟩ Q:=fun h' L' t' sZ pZ=>ih (j+1) i' h' L' om om i2 i3 t' sZ pZ
  rw[e3];refine br (2<=i'-A) (by rw[bR hA]) (fun c2=>?_) (fun c2=>?_)<;>refine zc ?_
  ·rw[e2]
   refine Ym hA aq (L0:=L0) a0 bn om om ov (fun h6 L6 kn hk t6 C3 UJ=>?_) (k'-A).toNat k' Di L5 (Nat.le_refl _) om om Dj hp5 (by rw[<-EA];exact .start hs5);refine zc ?_;rw[e4];rcases hk with rfl|rfl
   ·refine br (2<=B-i') (by rw[bR hA]) (fun c3=>?_) (fun c3=>?_)<;>refine zc ?_
    ·rw[e5]
     refine OG hA aq (L0:=L6) (A:=A) (j:=j) a0 bn om om (fun h7 L7 kn t7 Jg=>?_) (B-(i'+1)).toNat (i'+1) h6 L6 (Nat.le_refl _) om t6 (.refl _ _ _);refine zc ?_;rw[e6];exact go h7 L7 t7 (C3.trans (Jg.wide a0 om om)) (UJ.same (fun q q0 q1=>Jg.out q om om))
    ·rw[e6]
     exact go h6 L6 t6 C3 UJ
   ·refine br (2<=B-i') (by rw[bR hA]) (fun c3=>?_) (fun c3=>?_)<;>refine zc ?_
    ·rw[e5]
     refine UI hA aq (L0:=L6) (A:=A) (j:=j) a0 bn om om (fun h7 L7 kn t7 Jg=>?_) (B-(i'+1)).toNat (i'+1) h6 L6 (Nat.le_refl _) om t6 (.refl _ _ _);refine zc ?_;rw[e6];exact go h7 L7 t7 (C3.trans (Jg.wide a0 om om)) (UJ.same (fun q q0 q1=>Jg.out q om om))
    ·rw[e6]
     exact go h6 L6 t6 C3 UJ
  ·rw[e4]
   obtain⟨h6,ZH⟩:∃z,z=Di:=⟨_,rfl⟩;obtain⟨L6,hL6⟩:∃z,z=L5:=⟨_,rfl⟩;have t6:=Dj;have C3:=hp5;have UJ:aI gN L5 A i':=.one om;rw[<-ZH,<-hL6]at *;refine br (2<=B-i') (by rw[bR hA]) (fun c3=>?_) (fun c3=>?_)<;>refine zc ?_
   ·rw[e5]
    refine OG hA aq (L0:=L6) (A:=A) (j:=j) a0 bn om om (fun h7 L7 kn t7 Jg=>?_) (B-(i'+1)).toNat (i'+1) h6 L6 (Nat.le_refl _) om t6 (.refl _ _ _);refine zc ?_;rw[e6];exact go h7 L7 t7 (C3.trans (Jg.wide a0 om om)) (UJ.same (fun q q0 q1=>Jg.out q om om))
   ·rw[e6]
    exact go h6 L6 t6 C3 UJ
theorem Yn{h0 h:af}(aq:h0.low<=h0.next){b n c:Nat}{L:List LE}{A B:Int}(a0:0<=A)(ab:A+12<B)(bn:B<=n)(ov:uE L A B)(t:bB h0 h b n L){Q:Value->af->Prop}
  (hQ:∀h' L' u,bB h0 h' b n L'->aJ A B L L'->(u=true->aI gN L' A B)->Q (.bool u) h'):call 106 [.slice (some ⟨b,0,none⟩) n c,.int .i64 A,.int .i64 B,.func (.func 70) #[] #[]] h Q:=by
 have dg:=aq
 replace aq:=t.ext.aD aq
 have gi:=t.gi;have e1:arith .add .i64 A 1=A+1:=aH hA om om;refine hA.aU Try.func106 jA (hA.alike _ _ _ rfl) aq (zc ?_);rw[e1];refine aa2 hA dg (L0:=L) a0 ab bn ov (fun h' L' u e kn t' hp hs=>?_) (fun h' L' kn t' hp=>?_) 5 0 (A+1) h L om om om om t (.refl _ _ _) (.one om)
 ·refine zc ?_
  exact hQ h' L' u t' hp hs
 ·refine zc ?_
  exact hQ h' L' false t' hp (fun z=>by cases z)
