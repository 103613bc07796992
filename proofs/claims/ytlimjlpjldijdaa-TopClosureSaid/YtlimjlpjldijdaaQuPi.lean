import Derived.Test.YtlimjlpjldijdaaQuBp
set_option linter.unusedSimpArgs false
set_option linter.unusedVariables false
namespace Go.Proofs.Ytlimjlpjldijdaa
open Go.Sim
set_option maxRecDepth 100000
theorem SortedOn.next{α:Type}[Inhabited α]{le:α->α->Prop}(hp:Pre le){L:List α}{a i:Int}(h:SortedOn le L a i)(ai:a<i)(w:le (gt L (i-1)) (gt L i)):SortedOn le L a (i+1):=by
 intro p q p0 pq q1;by_cases e:q=i
 ·rw[e]
  by_cases e2:p=i-1
  ·rw[e2];exact w
  ·exact hp.trans _ _ _ (h p (i-1) p0 (by omega) (by omega)) w
 ·exact h p q p0 pq (by omega)
theorem SortedOn.less{α:Type}[Inhabited α]{le:α->α->Prop}{L:List α}{a b a' b':Int}(h:SortedOn le L a b)(ha:a<=a')(hb:b'<=b):SortedOn le L a' b':=fun p q p0 pq q1=>h p q (by omega) pq (by omega)
theorem SortedOn.same{α:Type}[Inhabited α]{le:α->α->Prop}{L M:List α}{a b:Int}(h:SortedOn le L a b)(e:∀k:Int,a<=k->k<b->gt M k=gt L k):SortedOn le M a b:=fun p q p0 pq q1=>by rw[e p p0 (by omega),e q (by omega) q1];exact h p q p0 pq q1
def Over(L:List F2)(A B:Int):Prop:=A=0\/∀k:Int,A<=k->k<B->leF (gt L (A-1)) (gt L k)
theorem Over.perm{L M:List F2}{A B:Int}(a0:0<=A)(h:Over L A B)(k:PermOn A B L M):Over M A B:=by
 rcases h with h|h
 ·exact .inl h
 ·by_cases c:A=0
  ·exact .inl c
  ·refine .inr (fun j j0 j1=>?_)
   rw[k.out (A-1) (by omega) (by omega)];exact k.all (fun x=>leF (gt L (A-1)) x) h j j0 j1
variable{F:Prims}{call head arith b0 c0 d0 e0 f0 g0 l0 m0 n0 o0 r0 s0 nz t0 rd wr u0 next v0 w0 x0 y0 z0 a1 b1 c1 d1 f1 g1 l1 m1 n1 lowered bump o1 p1 lt ne r1 s1 u1 yn v1 w1 x1 y1 z1 d2 j2 k2:_}(hA:AP F ⟨call,head,arith,b0,c0,d0,e0,f0,g0,l0,m0,n0,o0,r0,s0,nz,t0,rd,wr,u0,next,v0,w0,x0,y0,z0,a1,b1,c1,d1,f1,g1,l1,m1,n1,lowered,bump,o1,p1,lt,ne,r1,s1,u1,yn,v1,w1,x1,y1,z1,d2,j2,k2⟩)
include hA
theorem pi_5{h0:AHeap}(hlow:h0.low<=h0.next){b n c:Nat}{L:List F2}{A B j:Int}(a0:0<=A)(bn:B<=n){Q:Exit->SS->Prop}
  (hQ:∀h' i,Dat h0 h' b n L->A+1<=i->i<=B->SortedOn leF L A i->Q (.exit 2) ⟨[(0,.slice (some ⟨b,0,none⟩) n c),(1,.int .i64 A),(2,.int .i64 B),(3,.func (.func 64) #[] #[]),(9,.int .i64 i),(10,.int .i64 j)],18,[],h'⟩) :
  ∀(m:Nat) (i:Int) (h:AHeap),(B-i).toNat<=m->A+1<=i->i<=B->Dat h0 h b n L->SortedOn leF L A i->
   head 80 5 0 ⟨[(0,.slice (some ⟨b,0,none⟩) n c),(1,.int .i64 A),(2,.int .i64 B),(3,.func (.func 64) #[] #[]),(9,.int .i64 i),(10,.int .i64 j)],0,[],h⟩ Q:=by
 intro m
 induction m with
 |zero=>
  intro i h hm i0 i1 t hs;refine hA.roundR Try.func80 r80_ok (zc ?_);refine br (i<B) (by rw[e_lss hA]) (fun q=>by omega) (fun q=>?_)<;>refine zc ?_;exact hQ _ i (t.more (ext_bump hA _ _)) i0 i1 hs
 |succ m ih=>
  intro i h hm i0 i1 t hs;have few:=t.few;refine hA.roundR Try.func80 r80_ok (zc ?_);refine br (i<B) (by rw[e_lss hA]) (fun ci=>?_) (fun q=>?_)<;>refine zc ?_
  rotate_left
  ·exact hQ _ i (t.more (ext_bump hA _ _)) i0 i1 hs
  obtain⟨i',hi'⟩:∃z,z=i-1:=⟨_,rfl⟩;have e1:arith .sub .i64 i 1=i':=by rw[hi'];exact sub64 hA (by omega) (by omega)
  have e2:arith .add .i64 i 1=i+1:=add64 hA (by omega) (by omega);obtain⟨h2,hh2⟩:∃z,z=bump h 18:=⟨_,rfl⟩;have x2:Ext h h2:=by rw[hh2];exact ext_bump hA _ _
  have t2:=t.more x2;obtain⟨a2,b2,g2,f2,r2⟩:=t2.read (i:=i) (by omega) (by omega);obtain⟨a2',b2',g2',f2',r2'⟩:=t2.read (i:=i') (by omega) (by omega);have q2:=rd_ok hA r2;have q2':=rd_ok hA r2';rw[<-hh2]
  (refine zq ?_;repeat ((first|rw[e1]);refine zq ?_))
  refine qorder_ok hA (low_fresh hA h2) f2 f2' (fun u h2a hu x2a=>⟨_,rfl,?_⟩);have t2b:=dat_low hA hlow t2 x2a;refine zc ?_;generalize lowered h2 h2a=h2b at *;refine br (0<=u) (by rw[e_bnot hA,e_lss hA];by_cases z:u<0<;>simp[z]<;>omega) (fun cu=>?_) (fun cu=>?_)<;>refine zc ?_
  ·rw[hu]at cu
   rw[e2];exact ih (i+1) h2b (by omega) (by omega) (by omega) t2b (hs.next leF_pre (by omega) (by rw[<-hi'];exact Rat.not_lt.1 (fun w=>by have:=cmpF_lt.2 w;omega)))
  ·exact hQ h2b i t2b i0 i1 hs
theorem pi_14z{h0:AHeap}(hlow:h0.low<=h0.next){b n c:Nat}{L0:List F2}{A B i j:Int}(a0:0<=A)(bn:B<=n)(ai:A+2<=i)(ib:i<B)(ov:Over L0 A B){Q:Exit->SS->Prop}
  (hQ:∀h' L kn,kn=36\/kn=49->Dat h0 h' b n L->PermOn A B L0 L->SortedOn leF L A i->Q (.exit 4) ⟨[(0,.slice (some ⟨b,0,none⟩) n c),(1,.int .i64 A),(2,.int .i64 B),(3,.func (.func 64) #[] #[]),(9,.int .i64 i),(10,.int .i64 j)],kn,[],h'⟩) {h:AHeap} {L:List F2} (t:Dat h0 h b n L) (hp:PermOn A B L0 L) (hI:InsOn leF L A (i-1) A) :
   head 80 14 36 ⟨[(0,.slice (some ⟨b,0,none⟩) n c),(1,.int .i64 A),(2,.int .i64 B),(3,.func (.func 64) #[] #[]),(9,.int .i64 i),(10,.int .i64 j),(11,.int .i64 A)],36,[],h⟩ Q:=by
  obtain⟨k,hk⟩:∃z,z=A:=⟨_,rfl⟩;have few:=t.few;show head 80 14 36 ⟨[(0,.slice (some ⟨b,0,none⟩) n c),(1,.int .i64 A),(2,.int .i64 B),(3,.func (.func 64) #[] #[]),(9,.int .i64 i),(10,.int .i64 j),(11,.int .i64 A)],36,[],h⟩ Q;rw[show((11,Value.int .i64 A):Nat×Value)=(11,.int .i64 k) by rw[hk]];rw[<-hk]at hI;have k0:A<=k:=by omega
  refine hA.roundR Try.func80 r80_ok (zc ?_);refine br (1<=k) (by rw[e_geq hA]) (fun ck=>?_) (fun q=>?_)<;>refine zc ?_
  rotate_left
  ·exact hQ _ _ _ (.inl rfl) t hp (by subst hk;have:=hI.first;rwa [show i-1+1=i by omega]at this)
  obtain⟨k',hk'⟩:∃z,z=k-1:=⟨_,rfl⟩;have e1:arith .sub .i64 k 1=k':=by rw[hk'];exact sub64 hA (by omega) (by omega)
  obtain⟨h2,hh2⟩:∃z,z=bump h 13:=⟨_,rfl⟩;have x2:Ext h h2:=by rw[hh2];exact ext_bump hA _ _
  have t2:=t.more x2;obtain⟨a2,b2,g2,f2,r2⟩:=t2.read (i:=k) (by omega) (by omega);obtain⟨a2',b2',g2',f2',r2'⟩:=t2.read (i:=k') (by omega) (by omega);have q2:=rd_ok hA r2;have q2':=rd_ok hA r2';rw[<-hh2]
  (refine zq ?_;repeat ((first|rw[e1]);refine zq ?_))
  refine qorder_ok hA (low_fresh hA h2) f2 f2' (fun u h2a hu x2a=>⟨_,rfl,?_⟩);have t2b:=dat_low hA hlow t2 x2a;refine zc ?_;generalize lowered h2 h2a=h2b at *;refine br (0<=u) (by rw[e_bnot hA,e_lss hA];by_cases z:u<0<;>simp[z]<;>omega) (fun cu=>?_) (fun cu=>?_)<;>refine zc ?_
  rotate_left
  ·exfalso
   have:=(ov.perm a0 hp).resolve_left (by omega) k (by omega) (by omega);rw[show A-1=k' by omega]at this;rw[hu]at cu;exact absurd (cmpF_lt.1 (show cmpF (gt L k).q (gt L k').q<0 by omega)) (Rat.not_lt.2 this)
  ·exact hQ _ _ _ (.inr rfl) t2b hp (by subst hk;have:=hI.first;rwa [show i-1+1=i by omega]at this)
theorem pi_14{h0:AHeap}(hlow:h0.low<=h0.next){b n c:Nat}{L0:List F2}{A B i j:Int}(a0:0<=A)(bn:B<=n)(ai:A+2<=i)(ib:i<B)(ov:Over L0 A B){Q:Exit->SS->Prop}
  (hQ:∀h' L kn,kn=36\/kn=49->Dat h0 h' b n L->PermOn A B L0 L->SortedOn leF L A i->Q (.exit 4) ⟨[(0,.slice (some ⟨b,0,none⟩) n c),(1,.int .i64 A),(2,.int .i64 B),(3,.func (.func 64) #[] #[]),(9,.int .i64 i),(10,.int .i64 j)],kn,[],h'⟩) :
  ∀(m:Nat) (k:Int) (h:AHeap) (L:List F2),(k-A).toNat<=m->A<=k->k<=i-1->Dat h0 h b n L->PermOn A B L0 L->InsOn leF L A (i-1) k->
   head 80 14 36 ⟨[(0,.slice (some ⟨b,0,none⟩) n c),(1,.int .i64 A),(2,.int .i64 B),(3,.func (.func 64) #[] #[]),(9,.int .i64 i),(10,.int .i64 j),(11,.int .i64 k)],36,[],h⟩ Q:=by
 intro m
 induction m with
 |zero=>
  intro k h L hm k0 k1 t hp hI;obtain rfl:k=A:=by omega
  exact pi_14z hA hlow a0 bn ai ib ov hQ t hp hI
 |succ m ih=>
  intro k h L hm k0 k1 t hp hI;have few:=t.few;by_cases ck:A<k
  rotate_left
  ·obtain rfl:k=A:=by omega
   exact pi_14z hA hlow a0 bn ai ib ov hQ t hp hI
  refine hA.roundR Try.func80 r80_ok (zc ?_);refine br (1<=k) (by rw[e_geq hA]) (fun _=>?_) (fun q=>by omega)<;>refine zc ?_;obtain⟨k',hk'⟩:∃z,z=k-1:=⟨_,rfl⟩;have e1:arith .sub .i64 k 1=k':=by rw[hk'];exact sub64 hA (by omega) (by omega)
  obtain⟨h2,hh2⟩:∃z,z=bump h 13:=⟨_,rfl⟩;have x2:Ext h h2:=by rw[hh2];exact ext_bump hA _ _
  have t2:=t.more x2;obtain⟨a2,b2,g2,f2,r2⟩:=t2.read (i:=k) (by omega) (by omega);obtain⟨a2',b2',g2',f2',r2'⟩:=t2.read (i:=k') (by omega) (by omega);have q2:=rd_ok hA r2;have q2':=rd_ok hA r2';rw[<-hh2]
  (refine zq ?_;repeat ((first|rw[e1]);refine zq ?_))
  refine qorder_ok hA (low_fresh hA h2) f2 f2' (fun u h2a hu x2a=>⟨_,rfl,?_⟩);have t2b:=dat_low hA hlow t2 x2a;refine zc ?_;generalize lowered h2 h2a=h2b at *;refine br (0<=u) (by rw[e_bnot hA,e_lss hA];by_cases z:u<0<;>simp[z]<;>omega) (fun cu=>?_) (fun cu=>?_)<;>refine zc ?_
  ·rw[hu]at cu
   exact hQ _ _ _ (.inr rfl) t2b hp (by have:=hI.stop leF_pre ck (by rw[<-hk'];exact Rat.not_lt.1 (fun w=>by have:=cmpF_lt.2 w;omega));rwa [show i-1+1=i by omega]at this)
  ·rw[hu]at cu
   have w:¬leF (gt L (k-1)) (gt L k):=by rw[<-hk'];exact Rat.not_le.2 (cmpF_lt.1 (show cmpF (gt L k).q (gt L k').q<0 by omega))
   obtain⟨h5,hh5⟩:∃z,z=bump h2b 18:=⟨_,rfl⟩;have x5:Ext h2b h5:=by rw[hh5];exact ext_bump hA _ _
   have t5:=t2b.more x5;obtain⟨a5,b5,g5,f5,r5⟩:=t5.read (i:=k) (by omega) (by omega);obtain⟨a5',b5',g5',f5',r5'⟩:=t5.read (i:=k') (by omega) (by omega);have q5:=rd_ok hA r5;have q5':=rd_ok hA r5';rw[<-hh5];obtain⟨h5c,h5d,p5,p5',t5d⟩:=dat_swap hA t5 (i:=k) (j:=k') (by omega) (by omega) (by omega) (by omega) g5 g5'
   (refine zq ?_;repeat ((first|rw[e1]);refine zq ?_))
   refine ih k' h5d _ (by omega) (by omega) (by omega) t5d (hp.trans (PermOn.swap L (by omega) (by rw[t.len];exact bn) (by omega) (by omega) (by omega) (by omega))) ?_;have:=hI.step leF_pre (by omega) (by rw[t.len];omega) ck k1 w;rw[<-hk']at this;exact this
theorem pi_20a{h0:AHeap}(hlow:h0.low<=h0.next){b n c:Nat}{L0:List F2}{A B i j:Int}(a0:0<=A)(bn:B<=n)(ai:A<i)(ib:i<B){Q:Exit->SS->Prop}
  (hQ:∀h' L kn,Dat h0 h' b n L->PermOn i B L0 L->Q (.exit 6) ⟨[(0,.slice (some ⟨b,0,none⟩) n c),(1,.int .i64 A),(2,.int .i64 B),(3,.func (.func 64) #[] #[]),(9,.int .i64 i),(10,.int .i64 j)],kn,[],h'⟩) :
  ∀(m:Nat) (k:Int) (h:AHeap) (L:List F2),(B-k).toNat<=m->i+1<=k->Dat h0 h b n L->PermOn i B L0 L->
   head 80 20 36 ⟨[(0,.slice (some ⟨b,0,none⟩) n c),(1,.int .i64 A),(2,.int .i64 B),(3,.func (.func 64) #[] #[]),(9,.int .i64 i),(10,.int .i64 j),(12,.int .i64 k)],36,[],h⟩ Q:=by
 intro m
 induction m with
 |zero=>
  intro k h L hm k0 t hp;refine hA.roundR Try.func80 r80_ok (zc ?_);refine br (k<B) (by rw[e_lss hA]) (fun q=>by omega) (fun q=>?_)<;>refine zc ?_;exact hQ _ _ _ t hp
 |succ m ih=>
  intro k h L hm k0 t hp;have few:=t.few;refine hA.roundR Try.func80 r80_ok (zc ?_);refine br (k<B) (by rw[e_lss hA]) (fun ck=>?_) (fun q=>?_)<;>refine zc ?_
  rotate_left
  ·exact hQ _ _ _ t hp
  obtain⟨k',hk'⟩:∃z,z=k-1:=⟨_,rfl⟩;have e1:arith .sub .i64 k 1=k':=by rw[hk'];exact sub64 hA (by omega) (by omega)
  have e2:arith .add .i64 k 1=k+1:=add64 hA (by omega) (by omega);obtain⟨k1,hk1⟩:∃z,z=k+1:=⟨_,rfl⟩;rw[<-hk1]at e2;obtain⟨h2,hh2⟩:∃z,z=bump h 13:=⟨_,rfl⟩;have x2:Ext h h2:=by rw[hh2];exact ext_bump hA _ _
  have t2:=t.more x2;obtain⟨a2,b2,g2,f2,r2⟩:=t2.read (i:=k) (by omega) (by omega);obtain⟨a2',b2',g2',f2',r2'⟩:=t2.read (i:=k') (by omega) (by omega);have q2:=rd_ok hA r2;have q2':=rd_ok hA r2';rw[<-hh2]
  (refine zq ?_;repeat ((first|rw[e1]);refine zq ?_))
  refine qorder_ok hA (low_fresh hA h2) f2 f2' (fun u h2a hu x2a=>⟨_,rfl,?_⟩);have t2b:=dat_low hA hlow t2 x2a;refine zc ?_;generalize lowered h2 h2a=h2b at *;refine br (0<=u) (by rw[e_bnot hA,e_lss hA];by_cases z:u<0<;>simp[z]<;>omega) (fun cu=>?_) (fun cu=>?_)<;>refine zc ?_
  ·exact hQ _ _ _ t2b hp
  ·skip
   obtain⟨h5,hh5⟩:∃z,z=bump h2b 18:=⟨_,rfl⟩;have x5:Ext h2b h5:=by rw[hh5];exact ext_bump hA _ _
   have t5:=t2b.more x5;obtain⟨a5,b5,g5,f5,r5⟩:=t5.read (i:=k) (by omega) (by omega);obtain⟨a5',b5',g5',f5',r5'⟩:=t5.read (i:=k') (by omega) (by omega);have q5:=rd_ok hA r5;have q5':=rd_ok hA r5';rw[<-hh5];obtain⟨h5c,h5d,p5,p5',t5d⟩:=dat_swap hA t5 (i:=k) (j:=k') (by omega) (by omega) (by omega) (by omega) g5 g5'
   (refine zq ?_;repeat ((first|rw[e1]|rw[e2]);refine zq ?_))
   exact ih k1 h5d _ (by omega) (by omega) t5d (hp.trans (PermOn.swap L (by omega) (by rw[t.len];exact bn) (by omega) (by omega) (by omega) (by omega)))
theorem pi_20b{h0:AHeap}(hlow:h0.low<=h0.next){b n c:Nat}{L0:List F2}{A B i j:Int}(a0:0<=A)(bn:B<=n)(ai:A<i)(ib:i<B){Q:Exit->SS->Prop}
  (hQ:∀h' L kn,Dat h0 h' b n L->PermOn i B L0 L->Q (.exit 6) ⟨[(0,.slice (some ⟨b,0,none⟩) n c),(1,.int .i64 A),(2,.int .i64 B),(3,.func (.func 64) #[] #[]),(9,.int .i64 i),(10,.int .i64 j)],kn,[],h'⟩) :
  ∀(m:Nat) (k:Int) (h:AHeap) (L:List F2),(B-k).toNat<=m->i+1<=k->Dat h0 h b n L->PermOn i B L0 L->
   head 80 20 49 ⟨[(0,.slice (some ⟨b,0,none⟩) n c),(1,.int .i64 A),(2,.int .i64 B),(3,.func (.func 64) #[] #[]),(9,.int .i64 i),(10,.int .i64 j),(12,.int .i64 k)],49,[],h⟩ Q:=by
 intro m
 induction m with
 |zero=>
  intro k h L hm k0 t hp;refine hA.roundR Try.func80 r80_ok (zc ?_);refine br (k<B) (by rw[e_lss hA]) (fun q=>by omega) (fun q=>?_)<;>refine zc ?_;exact hQ _ _ _ t hp
 |succ m ih=>
  intro k h L hm k0 t hp;have few:=t.few;refine hA.roundR Try.func80 r80_ok (zc ?_);refine br (k<B) (by rw[e_lss hA]) (fun ck=>?_) (fun q=>?_)<;>refine zc ?_
  rotate_left
  ·exact hQ _ _ _ t hp
  obtain⟨k',hk'⟩:∃z,z=k-1:=⟨_,rfl⟩;have e1:arith .sub .i64 k 1=k':=by rw[hk'];exact sub64 hA (by omega) (by omega)
  have e2:arith .add .i64 k 1=k+1:=add64 hA (by omega) (by omega);obtain⟨k1,hk1⟩:∃z,z=k+1:=⟨_,rfl⟩;rw[<-hk1]at e2;obtain⟨h2,hh2⟩:∃z,z=bump h 13:=⟨_,rfl⟩;have x2:Ext h h2:=by rw[hh2];exact ext_bump hA _ _
  have t2:=t.more x2;obtain⟨a2,b2,g2,f2,r2⟩:=t2.read (i:=k) (by omega) (by omega);obtain⟨a2',b2',g2',f2',r2'⟩:=t2.read (i:=k') (by omega) (by omega);have q2:=rd_ok hA r2;have q2':=rd_ok hA r2';rw[<-hh2]
  (refine zq ?_;repeat ((first|rw[e1]);refine zq ?_))
  refine qorder_ok hA (low_fresh hA h2) f2 f2' (fun u h2a hu x2a=>⟨_,rfl,?_⟩);have t2b:=dat_low hA hlow t2 x2a;refine zc ?_;generalize lowered h2 h2a=h2b at *;refine br (0<=u) (by rw[e_bnot hA,e_lss hA];by_cases z:u<0<;>simp[z]<;>omega) (fun cu=>?_) (fun cu=>?_)<;>refine zc ?_
  ·exact hQ _ _ _ t2b hp
  ·skip
   obtain⟨h5,hh5⟩:∃z,z=bump h2b 18:=⟨_,rfl⟩;have x5:Ext h2b h5:=by rw[hh5];exact ext_bump hA _ _
   have t5:=t2b.more x5;obtain⟨a5,b5,g5,f5,r5⟩:=t5.read (i:=k) (by omega) (by omega);obtain⟨a5',b5',g5',f5',r5'⟩:=t5.read (i:=k') (by omega) (by omega);have q5:=rd_ok hA r5;have q5':=rd_ok hA r5';rw[<-hh5];obtain⟨h5c,h5d,p5,p5',t5d⟩:=dat_swap hA t5 (i:=k) (j:=k') (by omega) (by omega) (by omega) (by omega) g5 g5'
   (refine zq ?_;repeat ((first|rw[e1]|rw[e2]);refine zq ?_))
   exact ih k1 h5d _ (by omega) (by omega) t5d (hp.trans (PermOn.swap L (by omega) (by rw[t.len];exact bn) (by omega) (by omega) (by omega) (by omega)))
theorem pi_3{h0:AHeap}(hlow:h0.low<=h0.next){b n c:Nat}{L0:List F2}{A B:Int}(a0:0<=A)(ab:A+12<B)(bn:B<=n)(ov:Over L0 A B){Q:Exit->SS->Prop}
  (hQ:∀h' L u e kn,Dat h0 h' b n L->PermOn A B L0 L->(u=true->SortedOn leF L A B)->Q .ret ⟨(8,.bool u) :: e,kn,[],h'⟩) (hQ2:∀h' L kn,Dat h0 h' b n L->PermOn A B L0 L->Q (.exit 0) ⟨[],kn,[],h'⟩) :
  ∀(m:Nat) (j i:Int) (h:AHeap) (L:List F2),(5-j).toNat<=m->0<=j->A+1<=i->i<=B->Dat h0 h b n L->PermOn A B L0 L->SortedOn leF L A i->
   head 80 3 0 ⟨[(0,.slice (some ⟨b,0,none⟩) n c),(1,.int .i64 A),(2,.int .i64 B),(3,.func (.func 64) #[] #[]),(9,.int .i64 i),(10,.int .i64 j)],0,[],h⟩ Q:=by
 intro m
 induction m with
 |zero=>
  intro j i h L hm j0 i0 i1 t hp hs;refine hA.roundR Try.func80 r80_ok (zc ?_);refine br (j<5) (by rw[e_lss hA]) (fun q=>by omega) (fun q=>?_)<;>refine zc ?_;exact hQ2 _ _ _ t hp
 |succ m ih=>
  intro j i h L hm j0 i0 i1 t hp hs;have few:=t.few;refine hA.roundR Try.func80 r80_ok (zc ?_);refine br (j<5) (by rw[e_lss hA]) (fun cj=>?_) (fun q=>?_)<;>refine zc ?_
  rotate_left
  ·exact hQ2 _ _ _ t hp
  refine pi_5 hA hlow a0 bn (fun h1 i' t1 i2 i3 hs1=>?_) (B-i).toNat i h (Nat.le_refl _) i0 i1 t hs;refine zc ?_;refine br (i'=B) (by rw[e_eql hA]) (fun ci=>?_) (fun ci=>?_)<;>refine zc ?_
  ·subst ci
   exact hQ _ _ true _ _ t1 hp (fun _=>hs1)
  have e1:arith .sub .i64 B A=B-A:=sub64 hA (by omega) (by omega);rw[e1];refine br (B-A<50) (by rw[e_lss hA]) (fun cb=>?_) (fun cb=>?_)<;>refine zc ?_
  ·exact hQ _ _ false _ _ t1 hp (fun z=>by cases z)
  obtain⟨k',hk'⟩:∃z,z=i'-1:=⟨_,rfl⟩;have e2:arith .sub .i64 i' 1=k':=by rw[hk'];exact sub64 hA (by omega) (by omega)
  obtain⟨h5,hh5⟩:∃z,z=bump h1 18:=⟨_,rfl⟩;have x5:Ext h1 h5:=by rw[hh5];exact ext_bump hA _ _
  have t5:=t1.more x5;obtain⟨a5,b5,g5,f5,r5⟩:=t5.read (i:=i') (by omega) (by omega);obtain⟨a5',b5',g5',f5',r5'⟩:=t5.read (i:=k') (by omega) (by omega);have q5:=rd_ok hA r5;have q5':=rd_ok hA r5';rw[<-hh5];obtain⟨h5c,h5d,p5,p5',t5d⟩:=dat_swap hA t5 (i:=i') (j:=k') (by omega) (by omega) (by omega) (by omega) g5 g5'
  (refine zq ?_;repeat ((first|rw[e2]);refine zq ?_))
  have e3:arith .sub .i64 i' A=i'-A:=sub64 hA (by omega) (by omega);have e4:arith .sub .i64 B i'=B-i':=sub64 hA (by omega) (by omega);have e5:arith .add .i64 i' 1=i'+1:=add64 hA (by omega) (by omega);have e6:arith .add .i64 j 1=j+1:=add64 hA (by omega) (by omega);have hp5:PermOn A B L0 (swapL L i' k'):=hp.trans (PermOn.swap L a0 (by rw[t.len];exact bn) (by omega) (by omega) (by omega) (by omega));have hs5:SortedOn leF (swapL L i' k') A k':=(hs1.less (Int.le_refl _) (by omega)).same (fun q q0 q1=>by rw[gt_swap L (by omega) (by have:=t.len;omega) (by omega) (by have:=t.len;omega) (by omega),if_neg (by omega),if_neg (by omega)]);generalize swapL L i' k'=L5 at *;have go:∀h' L',Dat h0 h' b n L'->PermOn A B L0 L'->SortedOn leF L' A i'->head 80 3 0 ⟨[(0,.slice (some ⟨b,0,none⟩) n c),(1,.int .i64 A),(2,.int .i64 B),(3,.func (.func 64) #[] #[]),(9,.int .i64 i'),(10,.int .i64 (j+1))],0,[],h'⟩ Q:=fun h' L' t' hp' hs'=>ih (j+1) i' h' L' (by omega) (by omega) i2 i3 t' hp' hs'
  rw[e3];refine br (2<=i'-A) (by rw[e_geq hA]) (fun c2=>?_) (fun c2=>?_)<;>refine zc ?_
  ·rw[e2]
   refine pi_14 hA hlow (L0:=L0) a0 bn (by omega) (by omega) ov (fun h6 L6 kn hk t6 hp6 hs6=>?_) (k'-A).toNat k' h5d L5 (Nat.le_refl _) (by omega) (by omega) t5d hp5 (by rw[<-hk'];exact .start hs5);refine zc ?_;rw[e4];rcases hk with rfl|rfl
   ·refine br (2<=B-i') (by rw[e_geq hA]) (fun c3=>?_) (fun c3=>?_)<;>refine zc ?_
    ·rw[e5]
     refine pi_20a hA hlow (L0:=L6) (A:=A) (j:=j) a0 bn (by omega) (by omega) (fun h7 L7 kn t7 hp7=>?_) (B-(i'+1)).toNat (i'+1) h6 L6 (Nat.le_refl _) (by omega) t6 (.refl _ _ _);refine zc ?_;rw[e6];exact go h7 L7 t7 (hp6.trans (hp7.wide a0 (by omega) (by omega))) (hs6.same (fun q q0 q1=>hp7.out q (by omega) (by omega)))
    ·rw[e6]
     exact go h6 L6 t6 hp6 hs6
   ·refine br (2<=B-i') (by rw[e_geq hA]) (fun c3=>?_) (fun c3=>?_)<;>refine zc ?_
    ·rw[e5]
     refine pi_20b hA hlow (L0:=L6) (A:=A) (j:=j) a0 bn (by omega) (by omega) (fun h7 L7 kn t7 hp7=>?_) (B-(i'+1)).toNat (i'+1) h6 L6 (Nat.le_refl _) (by omega) t6 (.refl _ _ _);refine zc ?_;rw[e6];exact go h7 L7 t7 (hp6.trans (hp7.wide a0 (by omega) (by omega))) (hs6.same (fun q q0 q1=>hp7.out q (by omega) (by omega)))
    ·rw[e6]
     exact go h6 L6 t6 hp6 hs6
  ·rw[e4]
   obtain⟨h6,hh6⟩:∃z,z=h5d:=⟨_,rfl⟩;obtain⟨L6,hL6⟩:∃z,z=L5:=⟨_,rfl⟩;have t6:=t5d;have hp6:=hp5;have hs6:SortedOn leF L5 A i':=.one (by omega);rw[<-hh6,<-hL6]at *;refine br (2<=B-i') (by rw[e_geq hA]) (fun c3=>?_) (fun c3=>?_)<;>refine zc ?_
   ·rw[e5]
    refine pi_20a hA hlow (L0:=L6) (A:=A) (j:=j) a0 bn (by omega) (by omega) (fun h7 L7 kn t7 hp7=>?_) (B-(i'+1)).toNat (i'+1) h6 L6 (Nat.le_refl _) (by omega) t6 (.refl _ _ _);refine zc ?_;rw[e6];exact go h7 L7 t7 (hp6.trans (hp7.wide a0 (by omega) (by omega))) (hs6.same (fun q q0 q1=>hp7.out q (by omega) (by omega)))
   ·rw[e6]
    exact go h6 L6 t6 hp6 hs6
theorem pi_ok{h0 h:AHeap}(hlow:h0.low<=h0.next){b n c:Nat}{L:List F2}{A B:Int}(a0:0<=A)(ab:A+12<B)(bn:B<=n)(ov:Over L A B)(t:Dat h0 h b n L){Q:Value->AHeap->Prop}
  (hQ:∀h' L' u,Dat h0 h' b n L'->PermOn A B L L'->(u=true->SortedOn leF L' A B)->Q (.bool u) h'):call 80 [.slice (some ⟨b,0,none⟩) n c,.int .i64 A,.int .i64 B,.func (.func 64) #[] #[]] h Q:=by
 have hlow':=hlow
 replace hlow:=t.ext.lowOK hlow
 have few:=t.few;have e1:arith .add .i64 A 1=A+1:=add64 hA (by omega) (by omega);refine hA.bodyR Try.func80 r80_ok (hA.alike _ _ _ rfl) hlow (zc ?_);rw[e1];refine pi_3 hA hlow' (L0:=L) a0 ab bn ov (fun h' L' u e kn t' hp hs=>?_) (fun h' L' kn t' hp=>?_) 5 0 (A+1) h L (by omega) (by omega) (by omega) (by omega) t (.refl _ _ _) (.one (by omega))
 ·refine zc ?_
  exact hQ h' L' u t' hp hs
 ·refine zc ?_
  exact hQ h' L' false t' hp (fun z=>by cases z)
