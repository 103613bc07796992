import Derived.Test.YtlimjlpjldijdaaQuPt
set_option linter.unusedSimpArgs false
set_option linter.unusedVariables false
namespace Go.Proofs.Ytlimjlpjldijdaa
open Go.Sim
set_option maxRecDepth 100000
structure PartE{α:Type}[Inhabited α](le:α->α->Prop)(L:List α)(a b i j:Int):Prop where
 i0:a<i
 j1:j<b
 ij:i<=j+1
 low:∀p:Int,a<p->p<i->le (gt L p) (gt L a)
theorem PartE.left{α:Type}[Inhabited α]{le:α->α->Prop}{L:List α}{a b i j:Int}(h:PartE le L a b i j)(c:i<=j)(w:le (gt L i) (gt L a)):PartE le L a b (i+1) j:=
 ⟨by have:=h.i0;omega,h.j1,by omega,fun p p0 p1=>by
  by_cases e:p=i
  ·rw[e];exact w
  ·exact h.low p p0 (by omega)⟩
theorem PartE.right{α:Type}[Inhabited α]{le:α->α->Prop}{L:List α}{a b i j:Int}(h:PartE le L a b i j)(c:i<=j):PartE le L a b i (j-1):=⟨h.i0,by have:=h.j1;omega,by omega,h.low⟩
theorem PartE.swap{α:Type}[Inhabited α]{le:α->α->Prop}{L:List α}{a b i j:Int}(a0:0<=a)(hb:b<=L.length)(h:PartE le L a b i j)(c:i<j)(w:le (gt L j) (gt L a)):PartE le (swapL L i j) a b (i+1) (j-1):=by
 have hi:=h.i0;have hj:=h.j1;have g:∀k:Int,0<=k->gt (swapL L i j) k=if k=j then gt L i else if k=i then gt L j else gt L k:=fun k k0=>gt_swap L (by omega) (by omega) (by omega) (by omega) k0
 refine⟨by omega,by omega,by omega,fun p p0 p1=>?_⟩;rw[g p (by omega),g a a0,if_neg (show ¬p=j by omega),if_neg (show ¬a=j by omega),if_neg (show ¬a=i by omega)];by_cases e:p=i
 ·rw[if_pos e];exact w
 ·rw[if_neg e];exact h.low p p0 (by omega)
variable{F:Prims}{call head arith cmp scmp bnot bsame conv neg imax imin ofNat slen place inR nz geZ rd wr push next mkOK nat zeros sadd eqAgg cut slc sslc strAt part app cpy putAt fresh lowered bump wrote addN lt ne fpAll fpApp brk yn rng mget mput mnew bytes clr mrng ment:_}(hA:AP F ⟨call,head,arith,cmp,scmp,bnot,bsame,conv,neg,imax,imin,ofNat,slen,place,inR,nz,geZ,rd,wr,push,next,mkOK,nat,zeros,sadd,eqAgg,cut,slc,sslc,strAt,part,app,cpy,putAt,fresh,lowered,bump,wrote,addN,lt,ne,fpAll,fpApp,brk,yn,rng,mget,mput,mnew,bytes,clr,mrng,ment⟩)
include hA
theorem eq_up{h0:AHeap}(hlow:h0.low<=h0.next){b n c:Nat}{L:List F2}{A B j s:Int}(a0:0<=A)(bn:B<=n){Q:Exit->SS->Prop}
  (hQ:∀h' i,s<=i->Dat h0 h' b n L->PartE leF L A B i j->(i<=j->¬leF (gt L i) (gt L A))->Q (.exit 2) ⟨[(0,.slice (some ⟨b,0,none⟩) n c),(1,.int .i64 A),(4,.func (.func 64) #[] #[]),(11,.int .i64 i),(12,.int .i64 j)],33,[],h'⟩) :
  ∀(m:Nat) (i:Int) (h:AHeap),(j+1-i).toNat<=m->s<=i->Dat h0 h b n L->PartE leF L A B i j->
   head 81 3 16 ⟨[(0,.slice (some ⟨b,0,none⟩) n c),(1,.int .i64 A),(4,.func (.func 64) #[] #[]),(11,.int .i64 i),(12,.int .i64 j)],16,[],h⟩ Q:=by
 intro m
 induction m with
 |zero=>
  intro i h hm hs t hp;refine hA.roundR Try.func81 r81_ok (zc ?_);refine br (i<=j) (by rw[e_leq hA]) (fun q=>by omega) (fun q=>?_)<;>refine zc ?_;exact hQ _ i hs (t.more (ext_bump hA _ _)) hp (fun w=>absurd w q)
 |succ m ih=>
  intro i h hm hs t hp;have few:=t.few;have p1:=hp.i0;have p2:=hp.j1;refine hA.roundR Try.func81 r81_ok (zc ?_);refine br (i<=j) (by rw[e_leq hA]) (fun ci=>?_) (fun q=>?_)<;>refine zc ?_
  rotate_left
  ·exact hQ _ i hs (t.more (ext_bump hA _ _)) hp (fun w=>absurd w q)
  obtain⟨h2,hh2⟩:∃z,z=bump h 17:=⟨_,rfl⟩;have x2:Ext h h2:=by rw[hh2];exact ext_bump hA _ _
  have t2:=t.more x2;obtain⟨a2,b2,g2,f2,r2⟩:=t2.read (i:=A) (by omega) (by omega);obtain⟨a2',b2',g2',f2',r2'⟩:=t2.read (i:=i) (by omega) (by omega);have q2:=rd_ok hA r2;have q2':=rd_ok hA r2';rw[<-hh2];have e1:arith .add .i64 i 1=i+1:=add64 hA (by omega) (by omega);refine zq ?_;refine qorder_ok hA (low_fresh hA h2) f2 f2' (fun u h2a hu x2a=>⟨_,rfl,?_⟩);have t2b:=dat_low hA hlow t2 x2a;refine zc ?_;generalize lowered h2 h2a=h2b at *;refine br (0<=u) (by rw[e_bnot hA,e_lss hA];by_cases z:u<0<;>simp[z]<;>omega) (fun cu=>?_) (fun cu=>?_)<;>refine zc ?_
  ·rw[hu]at cu
   rw[e1];exact ih (i+1) h2b (by omega) (by omega) t2b (hp.left ci (Rat.not_lt.1 (fun w=>by have:=cmpF_lt.2 w;omega)))
  ·rw[hu]at cu
   exact hQ h2b i hs t2b hp (fun _=>Rat.not_le.2 (cmpF_lt.1 (show cmpF (gt L A).q (gt L i).q<0 by omega)))
theorem eq_down{h0:AHeap}(hlow:h0.low<=h0.next){b n c:Nat}{L:List F2}{A B i s:Int}(a0:0<=A)(bn:B<=n){Q:Exit->SS->Prop}
  (hQ:∀h' j,j<=s->Dat h0 h' b n L->PartE leF L A B i j->(i<=j->leF (gt L j) (gt L A))->Q (.exit 4) ⟨[(0,.slice (some ⟨b,0,none⟩) n c),(1,.int .i64 A),(4,.func (.func 64) #[] #[]),(11,.int .i64 i),(12,.int .i64 j)],49,[],h'⟩) :
  ∀(m:Nat) (j:Int) (h:AHeap),(j+1-i).toNat<=m->j<=s->Dat h0 h b n L->PartE leF L A B i j->
   head 81 5 33 ⟨[(0,.slice (some ⟨b,0,none⟩) n c),(1,.int .i64 A),(4,.func (.func 64) #[] #[]),(11,.int .i64 i),(12,.int .i64 j)],33,[],h⟩ Q:=by
 intro m
 induction m with
 |zero=>
  intro j h hm hs t hp;refine hA.roundR Try.func81 r81_ok (zc ?_);refine br (i<=j) (by rw[e_leq hA]) (fun q=>by omega) (fun q=>?_)<;>refine zc ?_;exact hQ _ j hs (t.more (ext_bump hA _ _)) hp (fun w=>absurd w q)
 |succ m ih=>
  intro j h hm hs t hp;have few:=t.few;have p1:=hp.i0;have p2:=hp.j1;refine hA.roundR Try.func81 r81_ok (zc ?_);refine br (i<=j) (by rw[e_leq hA]) (fun ci=>?_) (fun q=>?_)<;>refine zc ?_
  rotate_left
  ·exact hQ _ j hs (t.more (ext_bump hA _ _)) hp (fun w=>absurd w q)
  obtain⟨h2,hh2⟩:∃z,z=bump h 16:=⟨_,rfl⟩;have x2:Ext h h2:=by rw[hh2];exact ext_bump hA _ _
  have t2:=t.more x2;obtain⟨a2,b2,g2,f2,r2⟩:=t2.read (i:=A) (by omega) (by omega);obtain⟨a2',b2',g2',f2',r2'⟩:=t2.read (i:=j) (by omega) (by omega);have q2:=rd_ok hA r2;have q2':=rd_ok hA r2';rw[<-hh2];have e1:arith .sub .i64 j 1=j-1:=sub64 hA (by omega) (by omega);refine zq ?_;refine qorder_ok hA (low_fresh hA h2) f2 f2' (fun u h2a hu x2a=>⟨_,rfl,?_⟩);have t2b:=dat_low hA hlow t2 x2a;refine zc ?_;generalize lowered h2 h2a=h2b at *;refine br (u<0) (by rw[e_lss hA]) (fun cu=>?_) (fun cu=>?_)<;>refine zc ?_
  ·rw[e1]
   exact ih (j-1) h2b (by omega) (by omega) t2b (hp.right ci)
  ·rw[hu]at cu
   exact hQ h2b j hs t2b hp (fun _=>Rat.not_lt.1 (fun w=>cu (cmpF_lt.2 w)))
theorem eq_loop{h0:AHeap}(hlow:h0.low<=h0.next){b n c:Nat}{L0:List F2}{A B:Int}(a0:0<=A)(bn:B<=n){v:F2}{Q:Exit->SS->Prop}
  (hQ:∀h' L i e,Dat h0 h' b n L->PermOn A B L0 L->A<i->i<=B->(∀p:Int,A<=p->p<i->leF (gt L p) v)->Q (.exit 0) ⟨(11,.int .i64 i) :: e,49,[],h'⟩) :
  ∀(m:Nat) (i j:Int) (h:AHeap) (L:List F2),(j+1-i).toNat<=m->Dat h0 h b n L->PermOn A B L0 L->PartE leF L A B i j->gt L A=v->
   head 81 1003 16 ⟨[(0,.slice (some ⟨b,0,none⟩) n c),(1,.int .i64 A),(4,.func (.func 64) #[] #[]),(11,.int .i64 i),(12,.int .i64 j)],16,[],h⟩ Q:=by
 intro m;have fin:∀(h:AHeap) (L:List F2) (i j:Int),Dat h0 h b n L->PermOn A B L0 L->PartE leF L A B i j->gt L A=v->j<i->Q (.exit 0) ⟨[(11,.int .i64 i)],49,[],h⟩:=fun h L i j t hp hI hv c=>by
  have k1:=hI.i0;have k2:=hI.j1;have k3:=hI.ij;refine hQ h L i _ t hp k1 (by omega) (fun p p0 p1=>?_);by_cases e:p=A
  ·rw[e,hv];exact leF_pre.refl _
  ·rw[<-hv];exact hI.low p (by omega) p1
 induction m with
 |zero=>
  intro i j h L hm t hp hI hv;refine hA.roundR Try.func81 r81_ok (zc ?_);refine eq_up hA hlow a0 bn (s:=i) (fun h1 i1 s1 t1 hI1 w1=>?_) (j+1-i).toNat i h (Nat.le_refl _) (Int.le_refl _) t hI;refine zc ?_;refine eq_down hA hlow a0 bn (s:=j) (fun h2 j2 s2 t2 hI2 w2=>?_) (j+1-i1).toNat j h1 (Nat.le_refl _) (Int.le_refl _) t1 hI1;refine zc ?_;refine br (j2<i1) (by rw[e_gtr hA]) (fun _=>?_) (fun q=>by omega)<;>refine zc ?_;exact fin h2 L i1 j2 t2 hp hI2 hv (by omega)
 |succ m ih=>
  intro i j h L hm t hp hI hv;have few:=t.few;refine hA.roundR Try.func81 r81_ok (zc ?_);refine eq_up hA hlow a0 bn (s:=i) (fun h1 i1 s1 t1 hI1 w1=>?_) (j+1-i).toNat i h (Nat.le_refl _) (Int.le_refl _) t hI;refine zc ?_;refine eq_down hA hlow a0 bn (s:=j) (fun h2 j2 s2 t2 hI2 w2=>?_) (j+1-i1).toNat j h1 (Nat.le_refl _) (Int.le_refl _) t1 hI1;refine zc ?_;refine br (j2<i1) (by rw[e_gtr hA]) (fun q=>?_) (fun ci=>?_)<;>refine zc ?_
  ·exact fin h2 L i1 j2 t2 hp hI2 hv q
  have k1:=hI2.i0;have k2:=hI2.j1;have v2:=w2 (by omega);have v3:=w1 (by omega);have ne:i1≠j2:=fun e=>v3 (by rw[e];exact v2)
  have e1:arith .add .i64 i1 1=i1+1:=add64 hA (by omega) (by omega);have e2:arith .sub .i64 j2 1=j2-1:=sub64 hA (by omega) (by omega);obtain⟨i2,hi2⟩:∃z,z=i1+1:=⟨_,rfl⟩;obtain⟨j3,hj3⟩:∃z,z=j2-1:=⟨_,rfl⟩;rw[<-hi2]at e1;rw[<-hj3]at e2;obtain⟨h5,hh5⟩:∃z,z=bump h2 16:=⟨_,rfl⟩;have x5:Ext h2 h5:=by rw[hh5];exact ext_bump hA _ _
  have t5:=t2.more x5;obtain⟨a5,b5,g5,f5,r5⟩:=t5.read (i:=i1) (by omega) (by omega);obtain⟨a5',b5',g5',f5',r5'⟩:=t5.read (i:=j2) (by omega) (by omega);have q5:=rd_ok hA r5;have q5':=rd_ok hA r5';rw[<-hh5];obtain⟨h5c,h5d,p5,p5',t5d⟩:=dat_swap hA t5 (i:=i1) (j:=j2) (by omega) (by omega) (by omega) (by omega) g5 g5'
  (refine zq ?_;repeat ((first|rw[e1]|rw[e2]);refine zq ?_))
  refine ih i2 j3 h5d _ (by omega) t5d (hp.trans (PermOn.swap L a0 (by have:=t.len;omega) (by omega) (by omega) (by omega) (by omega))) ?_ ?_
  ·rw[hi2,hj3]
   exact hI2.swap a0 (by have:=t.len;omega) (by omega) v2
  ·rw[gt_swap L (by omega) (by have:=t.len;omega) (by omega) (by have:=t.len;omega) a0,if_neg (by omega),if_neg (by omega),hv]
theorem equal_ok{h0 h:AHeap}(hlow:h0.low<=h0.next){b n c:Nat}{L:List F2}{A B p:Int}(a0:0<=A)(bn:B<=n)(pa:A<=p)(pb:p<B)(t:Dat h0 h b n L){Q:Value->AHeap->Prop}
  (hQ:∀h' L' m,Dat h0 h' b n L'->PermOn A B L L'->A<m->m<=B->(∀k:Int,A<=k->k<m->leF (gt L' k) (gt L p))->Q (.int .i64 m) h') :
  call 81 [.slice (some ⟨b,0,none⟩) n c,.int .i64 A,.int .i64 B,.int .i64 p,.func (.func 64) #[] #[]] h Q:=by
 have hlow':=hlow
 replace hlow:=t.ext.lowOK hlow
 have few:=t.few;have e1:arith .add .i64 A 1=A+1:=add64 hA (by omega) (by omega);have e2:arith .sub .i64 B 1=B-1:=sub64 hA (by omega) (by omega);obtain⟨A1,hA1⟩:∃z,z=A+1:=⟨_,rfl⟩;obtain⟨B1,hB1⟩:∃z,z=B-1:=⟨_,rfl⟩;rw[<-hA1]at e1;rw[<-hB1]at e2;refine hA.bodyR Try.func81 r81_ok (hA.alike _ _ _ rfl) hlow (zc ?_);obtain⟨h2,hh2⟩:∃z,z=bump h 16:=⟨_,rfl⟩;have x2:Ext h h2:=by rw[hh2];exact ext_bump hA _ _
 have t2:=t.more x2;obtain⟨a2,b2,g2,f2,r2⟩:=t2.read (i:=A) (by omega) (by omega);obtain⟨a2',b2',g2',f2',r2'⟩:=t2.read (i:=p) (by omega) (by omega);have q2:=rd_ok hA r2;have q2':=rd_ok hA r2';rw[<-hh2];obtain⟨h2c,h2d,p2,p2',t2d⟩:=dat_swap hA t2 (i:=A) (j:=p) (by omega) (by omega) (by omega) (by omega) g2 g2'
 (refine zq ?_;repeat ((first|rw[e1]|rw[e2]);refine zq ?_))
 have s2:=PermOn.swap (a:=A) (b:=B) L (i:=A) (j:=p) a0 (by have:=t.len;omega) (by omega) (by omega) pa pb;have hv:gt (swapL L A p) A=gt L p:=by
  rw[gt_swap L a0 (by have:=t.len;omega) (by omega) (by have:=t.len;omega) a0];by_cases e:A=p
  ·rw[if_pos e,e]
  ·rw[if_neg e,if_pos rfl]
 refine eq_loop hA hlow' (L0:=L) a0 bn (v:=gt L p) (fun h' L' i e t' hp i0 i1 hl=>?_) (B1+1-A1).toNat A1 B1 h2d _ (Nat.le_refl _) t2d s2 ⟨by omega,by omega,by omega,fun p p0 p1=>by omega⟩ hv;refine zc ?_;exact hQ h' L' i t' hp i0 i1 hl
end Go.Proofs.Ytlimjlpjldijdaa
namespace Go.Proofs.Ytlimjlpjldijdaa
open Go.Sim
set_option maxRecDepth 100000
structure Cnt(h0 h:AHeap)(b sb:Nat)(v:Value):Prop where
 own:Own h sb 1 [v]
 lt:sb<h.next
 old:h0.next<=sb
 ne:sb≠b
theorem Cnt.more{h0 h h':AHeap}{b sb:Nat}{v:Value}(t:Cnt h0 h b sb v)(e:Ext h h'):Cnt h0 h' b sb v:=⟨t.own.ext e t.lt,Nat.lt_of_lt_of_le t.lt e.next,t.old,t.ne⟩
theorem Cnt.put{h0 h:AHeap}{b sb n:Nat}{v:Value}{L:List F2}(t:Cnt h0 h b sb v)(d:Dat h0 h b n L)(w:Value):∃h',h.write sb 0 [w]=some h'/\Cnt h0 h' b sb w/\Dat h0 h' b n L:=by
 obtain⟨h',w1,w2,w3⟩:=t.own.write (o:=0) (vs:=[w]) (by simp);exact⟨h',w1,⟨w2,by rw[w3.next];exact t.lt,t.old,t.ne⟩,⟨w3.ext d.ext t.old,w3.own d.own (Ne.symm t.ne),d.old,by rw[w3.next];exact d.lt,d.len,d.ok,d.few⟩⟩
variable{F:Prims}{call head arith cmp scmp bnot bsame conv neg imax imin ofNat slen place inR nz geZ rd wr push next mkOK nat zeros sadd eqAgg cut slc sslc strAt part app cpy putAt fresh lowered bump wrote addN lt ne fpAll fpApp brk yn rng mget mput mnew bytes clr mrng ment:_}(hA:AP F ⟨call,head,arith,cmp,scmp,bnot,bsame,conv,neg,imax,imin,ofNat,slen,place,inR,nz,geZ,rd,wr,push,next,mkOK,nat,zeros,sadd,eqAgg,cut,slc,sslc,strAt,part,app,cpy,putAt,fresh,lowered,bump,wrote,addN,lt,ne,fpAll,fpApp,brk,yn,rng,mget,mput,mnew,bytes,clr,mrng,ment⟩)
include hA
theorem cnt_low{h0 h h':AHeap}(hl:h.low<=h.next){b sb:Nat}{v:Value}(t:Cnt h0 h b sb v)(x:Ext (fresh h) h'):Cnt h0 (lowered h h') b sb v:=t.more (ext_low hA hl (.refl h) x)
theorem order2_ok{h0 h:AHeap}(hlow:h0.low<=h0.next){b n c sb:Nat}{L:List F2}{i j w:Int}(i0:0<=i)(i1:i<n)(j0:0<=j)(j1:j<n)(t:Dat h0 h b n L)(s:Cnt h0 h b sb (.int .i64 w)){Q:Value->AHeap->Prop}
  (hQ:∀h' r q w',Dat h0 h' b n L->Cnt h0 h' b sb (.int .i64 w')->((r=i/\q=j)\/(r=j/\q=i))->Q (.tuple #[.int .i64 r,.int .i64 q]) h'):call 90 [.slice (some ⟨b,0,none⟩) n c,.int .i64 i,.int .i64 j,.pointer (some ⟨sb,0,none⟩),.func (.func 64) #[] #[]] h Q:=by
 have hlow':=hlow
 replace hlow:=t.ext.lowOK hlow
 have few:=t.few;refine hA.bodyR Try.func90 r90_ok (hA.alike _ _ _ rfl) hlow (zc ?_);obtain⟨h2,hh2⟩:∃z,z=bump h 11:=⟨_,rfl⟩;have x2:Ext h h2:=by rw[hh2];exact ext_bump hA _ _
 have t2:=t.more x2;obtain⟨a2,b2,g2,f2,r2⟩:=t2.read (i:=j) (by omega) (by omega);obtain⟨a2',b2',g2',f2',r2'⟩:=t2.read (i:=i) (by omega) (by omega);have q2:=rd_ok hA r2;have q2':=rd_ok hA r2';rw[<-hh2];have s2:=s.more x2;have l2:=t2.ext.lowOK hlow';have hlow:=hlow';refine zq ?_;refine qorder_ok hA (low_fresh hA h2) f2 f2' (fun u h2a hu x2a=>⟨_,rfl,?_⟩);have t2b:=dat_low hA hlow t2 x2a;refine zc ?_;have s2b:=cnt_low hA l2 s2 x2a;generalize lowered h2 h2a=h2b at *;refine br (u<0) (by rw[e_lss hA]) (fun cu=>?_) (fun cu=>?_)<;>refine zc ?_
 rotate_left
 ·exact hQ h2b i j w t2b s2b (.inl ⟨rfl,rfl⟩)
 have r5:rd h2b sb 0 1 [.int .i64 w]:=rd_at hA (s2b.own.readG (o:=0) (n:=1) (by simp));obtain⟨h6,p6,s6,t6⟩:=s2b.put t2b (.int .i64 (arith .add .i64 w 1));have p7:wr h2b sb 0 [.int .i64 (arith .add .i64 w 1)] h6:=wr_at hA p6;refine zq ?_;exact hQ h6 j i _ t6 s6 (.inr ⟨rfl,rfl⟩)
theorem median_ok{h0 h:AHeap}(hlow:h0.low<=h0.next){b n c sb:Nat}{L:List F2}{i j k w:Int}(i0:0<=i)(i1:i<n)(j0:0<=j)(j1:j<n)(k0:0<=k)(k1:k<n)(t:Dat h0 h b n L)(s:Cnt h0 h b sb (.int .i64 w)){Q:Value->AHeap->Prop}
  (hQ:∀h' r w',Dat h0 h' b n L->Cnt h0 h' b sb (.int .i64 w')->(r=i\/r=j\/r=k)->Q (.int .i64 r) h'):call 89 [.slice (some ⟨b,0,none⟩) n c,.int .i64 i,.int .i64 j,.int .i64 k,.pointer (some ⟨sb,0,none⟩),.func (.func 64) #[] #[]] h Q:=by
 have hlow':=hlow
 replace hlow:=t.ext.lowOK hlow
 refine hA.bodyR Try.func89 r89_ok (hA.alike _ _ _ rfl) hlow (zc ?_);refine order2_ok hA hlow' i0 i1 j0 j1 t s (fun h1 a1 b1 w1 t1 s1 q1=>⟨_,_,rfl,?_⟩);refine zc ?_;refine order2_ok hA hlow' (i:=b1) (j:=k) (by omega) (by omega) k0 k1 t1 s1 (fun h2 a2 b2 w2 t2 s2 q2=>⟨_,_,rfl,?_⟩);refine zc ?_;refine order2_ok hA hlow' (i:=a1) (j:=a2) (by omega) (by omega) (by omega) (by omega) t2 s2 (fun h3 a3 b3 w3 t3 s3 q3=>⟨_,_,rfl,?_⟩);refine zc ?_;exact hQ h3 b3 w3 t3 s3 (by omega)
theorem adjacent_ok{h0 h:AHeap}(hlow:h0.low<=h0.next){b n c sb:Nat}{L:List F2}{i w:Int}(i0:0<i)(i1:i+1<n)(t:Dat h0 h b n L)(s:Cnt h0 h b sb (.int .i64 w)){Q:Value->AHeap->Prop}
  (hQ:∀h' r w',Dat h0 h' b n L->Cnt h0 h' b sb (.int .i64 w')->(i-1<=r/\r<=i+1)->Q (.int .i64 r) h'):call 88 [.slice (some ⟨b,0,none⟩) n c,.int .i64 i,.pointer (some ⟨sb,0,none⟩),.func (.func 64) #[] #[]] h Q:=by
 have hlow':=hlow
 replace hlow:=t.ext.lowOK hlow
 have few:=t.few;refine hA.bodyR Try.func88 r88_ok (hA.alike _ _ _ rfl) hlow (zc ?_);rw[sub64 hA (by omega) (by omega),add64 hA (by omega) (by omega)];refine median_ok hA hlow' (by omega) (by omega) (by omega) (by omega) (by omega) (by omega) t s (fun h1 r w1 t1 s1 q1=>⟨_,rfl,?_⟩);refine zc ?_;exact hQ h1 r w1 t1 s1 (by omega)
theorem pivot_ok{h0 h:AHeap}(hlow:h0.low<=h0.next){b n c:Nat}{L:List F2}{A B:Int}(a0:0<=A)(ab:A+12<B)(bn:B<=n)(t:Dat h0 h b n L){Q:Value->AHeap->Prop}
  (hQ:∀h' p k,Dat h0 h' b n L->A<=p->p<B->Q (.tuple #[.int .i64 p,.int .i64 k]) h'):call 78 [.slice (some ⟨b,0,none⟩) n c,.int .i64 A,.int .i64 B,.func (.func 64) #[] #[]] h Q:=by
 have hlow':=hlow
 replace hlow:=t.ext.lowOK hlow
 have few:=t.few;obtain⟨l,hl⟩:∃z,z=B-A:=⟨_,rfl⟩;have e1:arith .sub .i64 B A=l:=by rw[hl];exact sub64 hA (by omega) (by omega)
 have e2:arith .quo .i64 l 4=l / 4:=quo64 hA (by omega) (by omega) (by omega);obtain⟨q,hq⟩:∃z,z=l / 4:=⟨_,rfl⟩;rw[<-hq]at e2;have e3:arith .mul .i64 q 1=q:=by rw[mul64 hA (by omega) (by omega)];omega
 obtain⟨q2,hq2⟩:∃z,z=q*2:=⟨_,rfl⟩;have e4:arith .mul .i64 q 2=q2:=by rw[hq2];exact mul64 hA (by omega) (by omega)
 obtain⟨q3,hq3⟩:∃z,z=q*3:=⟨_,rfl⟩;have e5:arith .mul .i64 q 3=q3:=by rw[hq3];exact mul64 hA (by omega) (by omega)
 obtain⟨i,hi⟩:∃z,z=A+q:=⟨_,rfl⟩;have e6:arith .add .i64 A q=i:=by rw[hi];exact add64 hA (by omega) (by omega)
 obtain⟨j,hj⟩:∃z,z=A+q2:=⟨_,rfl⟩;have e7:arith .add .i64 A q2=j:=by rw[hj];exact add64 hA (by omega) (by omega)
 obtain⟨k,hk⟩:∃z,z=A+q3:=⟨_,rfl⟩;have e8:arith .add .i64 A q3=k:=by rw[hk];exact add64 hA (by omega) (by omega)
 refine hA.bodyR Try.func78 r78_ok (hA.alike _ _ _ rfl) hlow (zc ?_);rw[e_next hA,e_push hA];have x1:Ext h (h.push 1 [Value.int .i64 0]):=.push _ _ _;have o1:=Own.push h 1 [Value.int .i64 0];have n1:(h.push 1 [Value.int .i64 0]).next=h.next+1:=rfl;generalize h.push 1 [Value.int .i64 0]=h1 at *;obtain⟨sb,hsb⟩:∃z,z=h.next:=⟨_,rfl⟩;rw[<-hsb]at o1 ⊢;have t1:=t.more x1;have s1:Cnt h0 h1 b sb (.int .i64 0):=⟨o1,by omega,by have:=t.ext.next;omega,by have:=t.lt;omega⟩
 (refine zq ?_;repeat ((first|rw[e1]|rw[e2]|rw[e3]|rw[e6]|rw[e4]|rw[e7]|rw[e5]|rw[e8]);refine zq ?_))
 refine br (8<=l) (by rw[e_geq hA]) (fun _=>?_) (fun z=>by omega)<;>refine zc ?_;have tail:∀(h5:AHeap) (r w5:Int),Dat h0 h5 b n L->Cnt h0 h5 b sb (.int .i64 w5)->A<=r->r<B->rd h5 sb 0 1 [.int .i64 w5]:=fun h5 r w5 t5 s5 _ _=>rd_at hA (s5.own.readG (o:=0) (n:=1) (by simp))
 refine br (50<=l) (by rw[e_geq hA]) (fun c50=>?_) (fun c50=>?_)<;>refine zc ?_
 ·refine adjacent_ok hA hlow' (i:=i) (by omega) (by omega) t1 s1 (fun h2 i2 w2 t2 s2 m2=>⟨_,rfl,?_⟩)
  refine zc ?_;refine adjacent_ok hA hlow' (i:=j) (by omega) (by omega) t2 s2 (fun h3 j3 w3 t3 s3 m3=>⟨_,rfl,?_⟩);refine zc ?_;refine adjacent_ok hA hlow' (i:=k) (by omega) (by omega) t3 s3 (fun h4 k4 w4 t4 s4 m4=>⟨_,rfl,?_⟩);refine zc ?_;refine median_ok hA hlow' (i:=i2) (j:=j3) (k:=k4) (by omega) (by omega) (by omega) (by omega) (by omega) (by omega) t4 s4 (fun h5 r w5 t5 s5 m5=>⟨_,rfl,?_⟩);have r5:=tail h5 r w5 t5 s5 (by omega) (by omega);refine zq ?_;refine br (w5=0) (by rw[e_eql hA]) (fun _=>?_) (fun _=>?_)<;>refine zc ?_
  ·exact hQ h5 r _ t5 (by omega) (by omega)
  refine br (w5=12) (by rw[e_eql hA]) (fun _=>?_) (fun _=>?_)<;>refine zc ?_
  ·exact hQ h5 r _ t5 (by omega) (by omega)
  ·exact hQ h5 r _ t5 (by omega) (by omega)
 ·refine median_ok hA hlow' (i:=i) (j:=j) (k:=k) (by omega) (by omega) (by omega) (by omega) (by omega) (by omega) t1 s1 (fun h5 r w5 t5 s5 m5=>⟨_,rfl,?_⟩)
  have r5:=tail h5 r w5 t5 s5 (by omega) (by omega);refine zq ?_;refine br (w5=0) (by rw[e_eql hA]) (fun _=>?_) (fun _=>?_)<;>refine zc ?_
  ·exact hQ h5 r _ t5 (by omega) (by omega)
  refine br (w5=12) (by rw[e_eql hA]) (fun _=>?_) (fun _=>?_)<;>refine zc ?_
  ·exact hQ h5 r _ t5 (by omega) (by omega)
  ·exact hQ h5 r _ t5 (by omega) (by omega)
theorem rev_loop{h0:AHeap}(hlow:h0.low<=h0.next){b n c:Nat}{L0:List F2}{A B:Int}(a0:0<=A)(bn:B<=n){Q:Exit->SS->Prop}
  (hQ:∀h' L e kn,Dat h0 h' b n L->PermOn A B L0 L->Q (.exit 0) ⟨e,kn,[],h'⟩) :
  ∀(m:Nat) (i j:Int) (h:AHeap) (L:List F2),(j-i).toNat<=m->A<=i->j<B->Dat h0 h b n L->PermOn A B L0 L->
   head 79 2 0 ⟨[(0,.slice (some ⟨b,0,none⟩) n c),(8,.int .i64 i),(9,.int .i64 j)],0,[],h⟩ Q:=by
 intro m
 induction m with
 |zero=>
  intro i j h L hm i0 j1 t hp;refine hA.roundR Try.func79 r79_ok (zc ?_);refine br (i<j) (by rw[e_lss hA]) (fun q=>by omega) (fun _=>?_)<;>refine zc ?_;exact hQ h L _ _ t hp
 |succ m ih=>
  intro i j h L hm i0 j1 t hp;have few:=t.few;refine hA.roundR Try.func79 r79_ok (zc ?_);refine br (i<j) (by rw[e_lss hA]) (fun ci=>?_) (fun _=>?_)<;>refine zc ?_
  rotate_left
  ·exact hQ h L _ _ t hp
  have e1:arith .add .i64 i 1=i+1:=add64 hA (by omega) (by omega);have e2:arith .sub .i64 j 1=j-1:=sub64 hA (by omega) (by omega);obtain⟨i2,hi2⟩:∃z,z=i+1:=⟨_,rfl⟩;obtain⟨j3,hj3⟩:∃z,z=j-1:=⟨_,rfl⟩;rw[<-hi2]at e1;rw[<-hj3]at e2;obtain⟨h5,hh5⟩:∃z,z=bump h 16:=⟨_,rfl⟩;have x5:Ext h h5:=by rw[hh5];exact ext_bump hA _ _
  have t5:=t.more x5;obtain⟨a5,b5,g5,f5,r5⟩:=t5.read (i:=i) (by omega) (by omega);obtain⟨a5',b5',g5',f5',r5'⟩:=t5.read (i:=j) (by omega) (by omega);have q5:=rd_ok hA r5;have q5':=rd_ok hA r5';rw[<-hh5];obtain⟨h5c,h5d,p5,p5',t5d⟩:=dat_swap hA t5 (i:=i) (j:=j) (by omega) (by omega) (by omega) (by omega) g5 g5'
  (refine zq ?_;repeat ((first|rw[e1]|rw[e2]);refine zq ?_))
  exact ih i2 j3 h5d _ (by omega) (by omega) (by omega) t5d (hp.trans (PermOn.swap L a0 (by have:=t.len;omega) (by omega) (by omega) (by omega) (by omega)))
theorem rev_ok{h0 h:AHeap}(hlow:h0.low<=h0.next){b n c:Nat}{L:List F2}{A B:Int}(a0:0<=A)(ab:A<=B)(bn:B<=n)(t:Dat h0 h b n L){Q:Value->AHeap->Prop}
  (hQ:∀h' L',Dat h0 h' b n L'->PermOn A B L L'->Q (.tuple #[]) h'):call 79 [.slice (some ⟨b,0,none⟩) n c,.int .i64 A,.int .i64 B,.func (.func 64) #[] #[]] h Q:=by
 have hlow':=hlow
 replace hlow:=t.ext.lowOK hlow
 have few:=t.few;refine hA.bodyR Try.func79 r79_ok (hA.alike _ _ _ rfl) hlow (zc ?_);rw[sub64 hA (by omega) (by omega)];refine rev_loop hA hlow' (L0:=L) a0 bn (fun h' L' e kn t' hp=>?_) (B-1-A).toNat A (B-1) h L (Nat.le_refl _) (by omega) (by omega) t (.refl _ _ _);refine zc ?_;exact hQ h' L' t' hp
