import Derived.Test.YtlimjlpjldijdaaQuHs
set_option linter.unusedSimpArgs false
set_option linter.unusedVariables false
namespace Go.Proofs.Ytlimjlpjldijdaa
open Go.Sim
set_option maxRecDepth 100000
variable{F:Prims}{call head arith b0 c0 d0 e0 f0 g0 j0 k0 l0 m0 n0 o0 nz p0 rd wr q0 next r0 s0 t0 u0 v0 w0 x0 y0 z0 a1 b1 c1 d1 g1 lowered bump l1 n1 lt ne o1 q1 r1 yn u1 x1 y1 z1 c2 d2 l2 n2:_}(hA:AP F ⟨call,head,arith,b0,c0,d0,e0,f0,g0,j0,k0,l0,m0,n0,o0,nz,p0,rd,wr,q0,next,r0,s0,t0,u0,v0,w0,x0,y0,z0,a1,b1,c1,d1,g1,lowered,bump,l1,n1,lt,ne,o1,q1,r1,yn,u1,x1,y1,z1,c2,d2,l2,n2⟩)
include hA
theorem up3{h0:AHeap}(hlow:h0.low<=h0.next){b n c:Nat}{L:List F2}{A B j s:Int}(a0:0<=A)(bn:B<=n){Q:Exit->SS->Prop}
  (hQ:∀h' i,s<=i->Dat h0 h' b n L->Part leF L A B i j->(i<=j->leF (gt L A) (gt L i))->Q (.exit 0) ⟨[(0,.slice (some ⟨b,0,none⟩) n c),(1,.int .i64 A),(4,.func (.func 64) #[] #[]),(12,.int .i64 i),(13,.int .i64 j)],32,[],h'⟩) :
  ∀(m:Nat) (i:Int) (h:AHeap),(j+1-i).toNat<=m->s<=i->Dat h0 h b n L->Part leF L A B i j->
   head 82 3 16 ⟨[(0,.slice (some ⟨b,0,none⟩) n c),(1,.int .i64 A),(4,.func (.func 64) #[] #[]),(12,.int .i64 i),(13,.int .i64 j)],16,[],h⟩ Q:=by
 intro m
 induction m with
 |zero=>
  intro i h hm hs t hp;refine hA.roundR Try.func82 r82_ok (zc ?_);refine br (i<=j) (by rw[e_leq hA]) (fun q=>by omega) (fun q=>?_)<;>refine zc ?_;exact hQ _ i hs (t.more (ext_bump hA _ _)) hp (fun w=>absurd w q)
 |succ m ih=>
  intro i h hm hs t hp;have few:=t.few;have p1:=hp.i0;have p2:=hp.j1;refine hA.roundR Try.func82 r82_ok (zc ?_);refine br (i<=j) (by rw[e_leq hA]) (fun ci=>?_) (fun q=>?_)<;>refine zc ?_
  rotate_left
  ·exact hQ _ i hs (t.more (ext_bump hA _ _)) hp (fun w=>absurd w q)
  obtain⟨h2,hh2⟩:∃z,z=bump h 16:=⟨_,rfl⟩;have x2:Ext h h2:=by rw[hh2];exact ext_bump hA _ _
  have t2:=t.more x2;obtain⟨a2,b2,g2,f2,r2⟩:=t2.read (i:=i) (by omega) (by omega);obtain⟨a2',b2',g2',f2',r2'⟩:=t2.read (i:=A) (by omega) (by omega);have q2:=rd_ok hA r2;have q2':=rd_ok hA r2';rw[<-hh2];have e1:arith .add .i64 i 1=i+1:=add64 hA (by omega) (by omega);refine zq ?_;refine qorder_ok hA (low_fresh hA h2) f2 f2' (fun u h2a hu x2a=>⟨_,rfl,?_⟩);have t2b:=dat_low hA hlow t2 x2a;refine zc ?_;generalize lowered h2 h2a=h2b at *;refine br (u<0) (by rw[e_lss hA]) (fun cu=>?_) (fun cu=>?_)<;>refine zc ?_
  ·rw[hu]at cu
   rw[e1];exact ih (i+1) h2b (by omega) (by omega) t2b (hp.left ci (Rat.le_of_lt (cmpF_lt.1 cu)))
  ·rw[hu]at cu
   exact hQ h2b i hs t2b hp (fun _=>Rat.not_lt.1 (fun w=>cu (cmpF_lt.2 w)))
theorem down5{h0:AHeap}(hlow:h0.low<=h0.next){b n c:Nat}{L:List F2}{A B i s:Int}(a0:0<=A)(bn:B<=n){Q:Exit->SS->Prop}
  (hQ:∀h' j,j<=s->Dat h0 h' b n L->Part leF L A B i j->(i<=j->leF (gt L j) (gt L A)/\¬leF (gt L A) (gt L j))->Q (.exit 2) ⟨[(0,.slice (some ⟨b,0,none⟩) n c),(1,.int .i64 A),(4,.func (.func 64) #[] #[]),(12,.int .i64 i),(13,.int .i64 j)],49,[],h'⟩) :
  ∀(m:Nat) (j:Int) (h:AHeap),(j+1-i).toNat<=m->j<=s->Dat h0 h b n L->Part leF L A B i j->
   head 82 5 32 ⟨[(0,.slice (some ⟨b,0,none⟩) n c),(1,.int .i64 A),(4,.func (.func 64) #[] #[]),(12,.int .i64 i),(13,.int .i64 j)],32,[],h⟩ Q:=by
 intro m
 induction m with
 |zero=>
  intro j h hm hs t hp;refine hA.roundR Try.func82 r82_ok (zc ?_);refine br (i<=j) (by rw[e_leq hA]) (fun q=>by omega) (fun q=>?_)<;>refine zc ?_;exact hQ _ j hs (t.more (ext_bump hA _ _)) hp (fun w=>absurd w q)
 |succ m ih=>
  intro j h hm hs t hp;have few:=t.few;have p1:=hp.i0;have p2:=hp.j1;refine hA.roundR Try.func82 r82_ok (zc ?_);refine br (i<=j) (by rw[e_leq hA]) (fun ci=>?_) (fun q=>?_)<;>refine zc ?_
  rotate_left
  ·exact hQ _ j hs (t.more (ext_bump hA _ _)) hp (fun w=>absurd w q)
  obtain⟨h2,hh2⟩:∃z,z=bump h 17:=⟨_,rfl⟩;have x2:Ext h h2:=by rw[hh2];exact ext_bump hA _ _
  have t2:=t.more x2;obtain⟨a2,b2,g2,f2,r2⟩:=t2.read (i:=j) (by omega) (by omega);obtain⟨a2',b2',g2',f2',r2'⟩:=t2.read (i:=A) (by omega) (by omega);have q2:=rd_ok hA r2;have q2':=rd_ok hA r2';rw[<-hh2];have e1:arith .sub .i64 j 1=j-1:=sub64 hA (by omega) (by omega);refine zq ?_;refine qorder_ok hA (low_fresh hA h2) f2 f2' (fun u h2a hu x2a=>⟨_,rfl,?_⟩);have t2b:=dat_low hA hlow t2 x2a;refine zc ?_;generalize lowered h2 h2a=h2b at *;refine br (0<=u) (by rw[e_bnot hA,e_lss hA];by_cases z:u<0<;>simp[z]<;>omega) (fun cu=>?_) (fun cu=>?_)<;>refine zc ?_
  ·rw[hu]at cu
   rw[e1];exact ih (j-1) h2b (by omega) (by omega) t2b (hp.right ci (Rat.not_lt.1 (fun w=>by have:=cmpF_lt.2 w;omega)))
  ·rw[hu]at cu
   have lt:=cmpF_lt.1 (show cmpF (gt L j).q (gt L A).q<0 by omega);exact hQ h2b j hs t2b hp (fun _=>⟨Rat.le_of_lt lt,Rat.not_le.2 lt⟩)
theorem up13{h0:AHeap}(hlow:h0.low<=h0.next){b n c:Nat}{L:List F2}{A B j s:Int}(a0:0<=A)(bn:B<=n){Q:Exit->SS->Prop}
  (hQ:∀h' i,s<=i->Dat h0 h' b n L->Part leF L A B i j->(i<=j->leF (gt L A) (gt L i))->Q (.exit 6) ⟨[(0,.slice (some ⟨b,0,none⟩) n c),(1,.int .i64 A),(4,.func (.func 64) #[] #[]),(12,.int .i64 i),(13,.int .i64 j)],81,[],h'⟩) :
  ∀(m:Nat) (i:Int) (h:AHeap),(j+1-i).toNat<=m->s<=i->Dat h0 h b n L->Part leF L A B i j->
   head 82 13 65 ⟨[(0,.slice (some ⟨b,0,none⟩) n c),(1,.int .i64 A),(4,.func (.func 64) #[] #[]),(12,.int .i64 i),(13,.int .i64 j)],65,[],h⟩ Q:=by
 intro m
 induction m with
 |zero=>
  intro i h hm hs t hp;refine hA.roundR Try.func82 r82_ok (zc ?_);refine br (i<=j) (by rw[e_leq hA]) (fun q=>by omega) (fun q=>?_)<;>refine zc ?_;exact hQ _ i hs (t.more (ext_bump hA _ _)) hp (fun w=>absurd w q)
 |succ m ih=>
  intro i h hm hs t hp;have few:=t.few;have p1:=hp.i0;have p2:=hp.j1;refine hA.roundR Try.func82 r82_ok (zc ?_);refine br (i<=j) (by rw[e_leq hA]) (fun ci=>?_) (fun q=>?_)<;>refine zc ?_
  rotate_left
  ·exact hQ _ i hs (t.more (ext_bump hA _ _)) hp (fun w=>absurd w q)
  obtain⟨h2,hh2⟩:∃z,z=bump h 16:=⟨_,rfl⟩;have x2:Ext h h2:=by rw[hh2];exact ext_bump hA _ _
  have t2:=t.more x2;obtain⟨a2,b2,g2,f2,r2⟩:=t2.read (i:=i) (by omega) (by omega);obtain⟨a2',b2',g2',f2',r2'⟩:=t2.read (i:=A) (by omega) (by omega);have q2:=rd_ok hA r2;have q2':=rd_ok hA r2';rw[<-hh2];have e1:arith .add .i64 i 1=i+1:=add64 hA (by omega) (by omega);refine zq ?_;refine qorder_ok hA (low_fresh hA h2) f2 f2' (fun u h2a hu x2a=>⟨_,rfl,?_⟩);have t2b:=dat_low hA hlow t2 x2a;refine zc ?_;generalize lowered h2 h2a=h2b at *;refine br (u<0) (by rw[e_lss hA]) (fun cu=>?_) (fun cu=>?_)<;>refine zc ?_
  ·rw[hu]at cu
   rw[e1];exact ih (i+1) h2b (by omega) (by omega) t2b (hp.left ci (Rat.le_of_lt (cmpF_lt.1 cu)))
  ·rw[hu]at cu
   exact hQ h2b i hs t2b hp (fun _=>Rat.not_lt.1 (fun w=>cu (cmpF_lt.2 w)))
theorem down15{h0:AHeap}(hlow:h0.low<=h0.next){b n c:Nat}{L:List F2}{A B i s:Int}(a0:0<=A)(bn:B<=n){Q:Exit->SS->Prop}
  (hQ:∀h' j,j<=s->Dat h0 h' b n L->Part leF L A B i j->(i<=j->leF (gt L j) (gt L A)/\¬leF (gt L A) (gt L j))->Q (.exit 8) ⟨[(0,.slice (some ⟨b,0,none⟩) n c),(1,.int .i64 A),(4,.func (.func 64) #[] #[]),(12,.int .i64 i),(13,.int .i64 j)],98,[],h'⟩) :
  ∀(m:Nat) (j:Int) (h:AHeap),(j+1-i).toNat<=m->j<=s->Dat h0 h b n L->Part leF L A B i j->
   head 82 15 81 ⟨[(0,.slice (some ⟨b,0,none⟩) n c),(1,.int .i64 A),(4,.func (.func 64) #[] #[]),(12,.int .i64 i),(13,.int .i64 j)],81,[],h⟩ Q:=by
 intro m
 induction m with
 |zero=>
  intro j h hm hs t hp;refine hA.roundR Try.func82 r82_ok (zc ?_);refine br (i<=j) (by rw[e_leq hA]) (fun q=>by omega) (fun q=>?_)<;>refine zc ?_;exact hQ _ j hs (t.more (ext_bump hA _ _)) hp (fun w=>absurd w q)
 |succ m ih=>
  intro j h hm hs t hp;have few:=t.few;have p1:=hp.i0;have p2:=hp.j1;refine hA.roundR Try.func82 r82_ok (zc ?_);refine br (i<=j) (by rw[e_leq hA]) (fun ci=>?_) (fun q=>?_)<;>refine zc ?_
  rotate_left
  ·exact hQ _ j hs (t.more (ext_bump hA _ _)) hp (fun w=>absurd w q)
  obtain⟨h2,hh2⟩:∃z,z=bump h 17:=⟨_,rfl⟩;have x2:Ext h h2:=by rw[hh2];exact ext_bump hA _ _
  have t2:=t.more x2;obtain⟨a2,b2,g2,f2,r2⟩:=t2.read (i:=j) (by omega) (by omega);obtain⟨a2',b2',g2',f2',r2'⟩:=t2.read (i:=A) (by omega) (by omega);have q2:=rd_ok hA r2;have q2':=rd_ok hA r2';rw[<-hh2];have e1:arith .sub .i64 j 1=j-1:=sub64 hA (by omega) (by omega);refine zq ?_;refine qorder_ok hA (low_fresh hA h2) f2 f2' (fun u h2a hu x2a=>⟨_,rfl,?_⟩);have t2b:=dat_low hA hlow t2 x2a;refine zc ?_;generalize lowered h2 h2a=h2b at *;refine br (0<=u) (by rw[e_bnot hA,e_lss hA];by_cases z:u<0<;>simp[z]<;>omega) (fun cu=>?_) (fun cu=>?_)<;>refine zc ?_
  ·rw[hu]at cu
   rw[e1];exact ih (j-1) h2b (by omega) (by omega) t2b (hp.right ci (Rat.not_lt.1 (fun w=>by have:=cmpF_lt.2 w;omega)))
  ·rw[hu]at cu
   have lt:=cmpF_lt.1 (show cmpF (gt L j).q (gt L A).q<0 by omega);exact hQ h2b j hs t2b hp (fun _=>⟨Rat.le_of_lt lt,Rat.not_le.2 lt⟩)
theorem part_loop{h0:AHeap}(hlow:h0.low<=h0.next){b n c:Nat}{L0:List F2}{A B:Int}(a0:0<=A)(bn:B<=n){Q:Exit->SS->Prop}
  (hQ:∀h' L i j,Dat h0 h' b n L->PermOn A B L0 L->Part leF L A B i j->j<i->Q (.exit 4) ⟨[(0,.slice (some ⟨b,0,none⟩) n c),(1,.int .i64 A),(13,.int .i64 j)],98,[],h'⟩) :
  ∀(m:Nat) (i j:Int) (h:AHeap) (L:List F2),(j+1-i).toNat<=m->Dat h0 h b n L->PermOn A B L0 L->Part leF L A B i j->
   head 82 1013 65 ⟨[(0,.slice (some ⟨b,0,none⟩) n c),(1,.int .i64 A),(4,.func (.func 64) #[] #[]),(12,.int .i64 i),(13,.int .i64 j)],65,[],h⟩ Q:=by
 intro m
 induction m with
 |zero=>
  intro i j h L hm t hp hI;refine hA.roundR Try.func82 r82_ok (zc ?_);refine up13 hA hlow a0 bn (s:=i) (fun h1 i1 s1 t1 hI1 w1=>?_) (j+1-i).toNat i h (Nat.le_refl _) (Int.le_refl _) t hI;refine zc ?_;refine down15 hA hlow a0 bn (s:=j) (fun h2 j2 s2 t2 hI2 w2=>?_) (j+1-i1).toNat j h1 (Nat.le_refl _) (Int.le_refl _) t1 hI1;refine zc ?_;refine br (j2<i1) (by rw[e_gtr hA]) (fun _=>?_) (fun q=>by omega)<;>refine zc ?_;exact hQ h2 L i1 j2 t2 hp hI2 (by omega)
 |succ m ih=>
  intro i j h L hm t hp hI;have few:=t.few;refine hA.roundR Try.func82 r82_ok (zc ?_);refine up13 hA hlow a0 bn (s:=i) (fun h1 i1 s1 t1 hI1 w1=>?_) (j+1-i).toNat i h (Nat.le_refl _) (Int.le_refl _) t hI;refine zc ?_;refine down15 hA hlow a0 bn (s:=j) (fun h2 j2 s2 t2 hI2 w2=>?_) (j+1-i1).toNat j h1 (Nat.le_refl _) (Int.le_refl _) t1 hI1;refine zc ?_;refine br (j2<i1) (by rw[e_gtr hA]) (fun q=>?_) (fun ci=>?_)<;>refine zc ?_
  ·exact hQ h2 L i1 j2 t2 hp hI2 q
  have k1:=hI2.i0;have k2:=hI2.j1;obtain⟨v1,v2⟩:=w2 (by omega);have v3:=w1 (by omega);have ne:i1≠j2:=fun e=>v2 (by rw[<-e];exact v3)
  have e1:arith .add .i64 i1 1=i1+1:=add64 hA (by omega) (by omega);have e2:arith .sub .i64 j2 1=j2-1:=sub64 hA (by omega) (by omega);obtain⟨i2,hi2⟩:∃z,z=i1+1:=⟨_,rfl⟩;obtain⟨j3,hj3⟩:∃z,z=j2-1:=⟨_,rfl⟩;rw[<-hi2]at e1;rw[<-hj3]at e2;obtain⟨h5,hh5⟩:∃z,z=bump h2 16:=⟨_,rfl⟩;have x5:Ext h2 h5:=by rw[hh5];exact ext_bump hA _ _
  have t5:=t2.more x5;obtain⟨a5,b5,g5,f5,r5⟩:=t5.read (i:=i1) (by omega) (by omega);obtain⟨a5',b5',g5',f5',r5'⟩:=t5.read (i:=j2) (by omega) (by omega);have q5:=rd_ok hA r5;have q5':=rd_ok hA r5';rw[<-hh5];obtain⟨h5c,h5d,p5,p5',t5d⟩:=dat_swap hA t5 (i:=i1) (j:=j2) (by omega) (by omega) (by omega) (by omega) g5 g5'
  (refine zq ?_;repeat ((first|rw[e1]|rw[e2]);refine zq ?_))
  refine ih i2 j3 h5d _ (by omega) t5d (hp.trans (PermOn.swap L a0 (by have:=t.len;omega) (by omega) (by omega) (by omega) (by omega))) ?_;rw[hi2,hj3];exact hI2.swap a0 (by have:=t.len;omega) (by omega) v3 v1
theorem part_ok{h0 h:AHeap}(hlow:h0.low<=h0.next){b n c:Nat}{L:List F2}{A B p:Int}(a0:0<=A)(bn:B<=n)(pa:A<=p)(pb:p<B)(t:Dat h0 h b n L){Q:Value->AHeap->Prop}
  (hQ:∀h' L' m (r:Bool),Dat h0 h' b n L'->PermOn A B L L'->A<=m->m<B->(∀p:Int,A<=p->p<m->leF (gt L' p) (gt L' m))->(∀p:Int,m<p->p<B->leF (gt L' m) (gt L' p))->Q (.tuple #[.int .i64 m,.bool r]) h') :
  call 82 [.slice (some ⟨b,0,none⟩) n c,.int .i64 A,.int .i64 B,.int .i64 p,.func (.func 64) #[] #[]] h Q:=by
 have hlow':=hlow
 replace hlow:=t.ext.lowOK hlow
 have few:=t.few;have e1:arith .add .i64 A 1=A+1:=add64 hA (by omega) (by omega);have e2:arith .sub .i64 B 1=B-1:=sub64 hA (by omega) (by omega);obtain⟨A1,hA1⟩:∃z,z=A+1:=⟨_,rfl⟩;obtain⟨B1,hB1⟩:∃z,z=B-1:=⟨_,rfl⟩;rw[<-hA1]at e1;rw[<-hB1]at e2;refine hA.bodyR Try.func82 r82_ok (hA.alike _ _ _ rfl) hlow (zc ?_);obtain⟨h2,hh2⟩:∃z,z=bump h 16:=⟨_,rfl⟩;have x2:Ext h h2:=by rw[hh2];exact ext_bump hA _ _
 have t2:=t.more x2;obtain⟨a2,b2,g2,f2,r2⟩:=t2.read (i:=A) (by omega) (by omega);obtain⟨a2',b2',g2',f2',r2'⟩:=t2.read (i:=p) (by omega) (by omega);have q2:=rd_ok hA r2;have q2':=rd_ok hA r2';rw[<-hh2];obtain⟨h2c,h2d,p2,p2',t2d⟩:=dat_swap hA t2 (i:=A) (j:=p) (by omega) (by omega) (by omega) (by omega) g2 g2'
 (refine zq ?_;repeat ((first|rw[e1]|rw[e2]);refine zq ?_))
 have s2:=PermOn.swap (a:=A) (b:=B) L (i:=A) (j:=p) a0 (by have:=t.len;omega) (by omega) (by omega) pa pb;generalize swapL L A p=L2 at *;have hI:Part leF L2 A B A1 B1:=by rw[hA1,hB1];exact .start L2 (by omega)
 refine up3 hA hlow' a0 bn (s:=A1) (fun h3 i3 s3 t3 hI3 w3=>?_) (B1+1-A1).toNat A1 h2d (Nat.le_refl _) (Int.le_refl _) t2d hI;refine zc ?_;refine down5 hA hlow' a0 bn (s:=B1) (fun h4 j4 s4 t4 hI4 w4=>?_) (B1+1-i3).toNat B1 h3 (Nat.le_refl _) (Int.le_refl _) t3 hI3;refine zc ?_;have fin:∀(hh:AHeap) (L':List F2) (i j:Int),Dat h0 hh b n L'->PermOn A B L L'->Part leF L' A B i j->j<i->∀hh' (r:Bool),Dat h0 hh' b n (swapL L' j A)->Q (.tuple #[.int .i64 j,.bool r]) hh':=fun hh L' i j td hp hI c hh' r td'=>by
  have k1:=hI.i0;have k2:=hI.j1;have k3:=hI.ij;obtain⟨f1,f2⟩:=hI.done a0 (by have:=td.len;omega) c;exact hQ hh' _ j r td' (hp.trans (PermOn.swap L' a0 (by have:=td.len;omega) (by omega) (by omega) (by omega) (by omega))) (by omega) (by omega) f1 f2
 have k1:=hI4.i0;have k2:=hI4.j1;have k3:=hI4.ij;refine br (j4<i3) (by rw[e_gtr hA]) (fun q=>?_) (fun ci=>?_)<;>refine zc ?_
 ·have hfin:=fin h4 L2 i3 j4 t4 s2 hI4 q
  have hlowq:=hlow';clear hlow;have hlow:=hlow';obtain⟨h6,hh6⟩:∃z,z=bump h4 16:=⟨_,rfl⟩;have x6:Ext h4 h6:=by rw[hh6];exact ext_bump hA _ _
  have t6:=t4.more x6;obtain⟨a6,b6,g6,f6,r6⟩:=t6.read (i:=j4) (by omega) (by omega);obtain⟨a6',b6',g6',f6',r6'⟩:=t6.read (i:=A) (by omega) (by omega);have q6:=rd_ok hA r6;have q6':=rd_ok hA r6';rw[<-hh6];obtain⟨h6c,h6d,p6,p6',t6d⟩:=dat_swap hA t6 (i:=j4) (j:=A) (by omega) (by omega) (by omega) (by omega) g6 g6';refine zq ?_;exact hfin _ _ t6d
 obtain⟨v1,v2⟩:=w4 (by omega);have v3:=w3 (by omega);have ne:i3≠j4:=fun e=>v2 (by rw[<-e];exact v3)
 have e3:arith .add .i64 i3 1=i3+1:=add64 hA (by omega) (by omega);have e4:arith .sub .i64 j4 1=j4-1:=sub64 hA (by omega) (by omega);obtain⟨i5,hi5⟩:∃z,z=i3+1:=⟨_,rfl⟩;obtain⟨j5,hj5⟩:∃z,z=j4-1:=⟨_,rfl⟩;rw[<-hi5]at e3;rw[<-hj5]at e4;obtain⟨h7,hh7⟩:∃z,z=bump h4 16:=⟨_,rfl⟩;have x7:Ext h4 h7:=by rw[hh7];exact ext_bump hA _ _
 have t7:=t4.more x7;obtain⟨a7,b7,g7,f7,r7⟩:=t7.read (i:=i3) (by omega) (by omega);obtain⟨a7',b7',g7',f7',r7'⟩:=t7.read (i:=j4) (by omega) (by omega);have q7:=rd_ok hA r7;have q7':=rd_ok hA r7';rw[<-hh7];obtain⟨h7c,h7d,p7,p7',t7d⟩:=dat_swap hA t7 (i:=i3) (j:=j4) (by omega) (by omega) (by omega) (by omega) g7 g7'
 (refine zq ?_;repeat ((first|rw[e3]|rw[e4]);refine zq ?_))
 have hI7:=hI4.swap a0 (by have:=t4.len;omega) (by omega) v3 v1;rw[<-hi5,<-hj5]at hI7;refine part_loop hA hlow' (L0:=L) a0 bn (fun h8 L8 i8 j8 t8 hp8 hI8 c8=>?_) (j5+1-i5).toNat i5 j5 h7d _ (Nat.le_refl _) t7d (s2.trans (PermOn.swap L2 a0 (by have:=t4.len;omega) (by omega) (by omega) (by omega) (by omega))) hI7;have m1:=hI8.i0;have m2:=hI8.j1;have m3:=hI8.ij;have hfin:=fin h8 L8 i8 j8 t8 hp8 hI8 c8;refine zc ?_;obtain⟨h9,hh9⟩:∃z,z=bump h8 16:=⟨_,rfl⟩;have x9:Ext h8 h9:=by rw[hh9];exact ext_bump hA _ _
 have t9:=t8.more x9;obtain⟨a9,b9,g9,f9,r9⟩:=t9.read (i:=j8) (by omega) (by omega);obtain⟨a9',b9',g9',f9',r9'⟩:=t9.read (i:=A) (by omega) (by omega);have q9:=rd_ok hA r9;have q9':=rd_ok hA r9';rw[<-hh9];obtain⟨h9c,h9d,p9,p9',t9d⟩:=dat_swap hA t9 (i:=j8) (j:=A) (by omega) (by omega) (by omega) (by omega) g9 g9';refine zq ?_;exact hfin _ _ t9d
