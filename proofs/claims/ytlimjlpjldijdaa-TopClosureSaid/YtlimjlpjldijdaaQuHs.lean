import Derived.Test.YtlimjlpjldijdaaQuO
set_option linter.unusedSimpArgs false
set_option linter.unusedVariables false
namespace Go.Proofs.Ytlimjlpjldijdaa
open Go.Sim
set_option maxRecDepth 100000
variable{F:Prims}{call head arith cmp scmp bnot bsame conv neg imax imin ofNat slen place inR nz geZ rd wr push next mkOK nat zeros sadd eqAgg cut slc sslc strAt part app cpy putAt fresh lowered bump wrote addN lt ne fpAll fpApp brk yn rng mget mput mnew bytes clr mrng ment:_}(hA:AP F ⟨call,head,arith,cmp,scmp,bnot,bsame,conv,neg,imax,imin,ofNat,slen,place,inR,nz,geZ,rd,wr,push,next,mkOK,nat,zeros,sadd,eqAgg,cut,slc,sslc,strAt,part,app,cpy,putAt,fresh,lowered,bump,wrote,addN,lt,ne,fpAll,fpApp,brk,yn,rng,mget,mput,mnew,bytes,clr,mrng,ment⟩)
include hA
set_option maxHeartbeats 4000000 in
theorem sift_loop{h0:AHeap}(hlow:h0.low<=h0.next){b n c':Nat}{L0:List F2}{f lo hi:Int}(f0:0<=f)(l0:0<=lo)(hn:f+hi<=n){Q:Exit->SS->Prop}
  (hQ:∀h' L x e kn,(x=.exit 0\/x=.ret)->Dat h0 h' b n L->PermOn f (f+hi) L0 L->HeapOn leF L f lo hi->Q x ⟨e,kn,[],h'⟩) :
  ∀(m:Nat) (r:Int) (h:AHeap) (L:List F2),(hi-r).toNat<=m->lo<=r->r<=100000->Dat h0 h b n L->PermOn f (f+hi) L0 L->HeapX leF L f lo hi r->
   head 85 1 0 ⟨[(0,.slice (some ⟨b,0,none⟩) n c'),(2,.int .i64 hi),(3,.int .i64 f),(4,.func (.func 64) #[] #[]),(10,.int .i64 r)],0,[],h⟩ Q:=by
 intro m
 induction m with
 |zero=>
  intro r h L hm r0 r1 t hp hX;have few:=t.few;have e1:arith .mul .i64 2 r=2*r:=mul64 hA (by omega) (by omega);obtain⟨c,hc⟩:∃z,z=2*r+1:=⟨_,rfl⟩;have e2:arith .add .i64 (2*r) 1=c:=by rw[hc];exact add64 hA (by omega) (by omega)
  refine hA.roundR Try.func85 r85_ok (zc ?_);rw[e1,e2];refine br (hi<=c) (by rw[e_geq hA]) (fun _=>?_) (fun q=>by omega)<;>refine zc ?_;exact hQ _ L _ _ _ (.inl rfl) t hp (hX.leaf (by omega))
 |succ m ih=>
  intro r h L hm r0 r1 t hp hX;have few:=t.few;have e1:arith .mul .i64 2 r=2*r:=mul64 hA (by omega) (by omega);obtain⟨k,hk⟩:∃z,z=2*r+1:=⟨_,rfl⟩;have e2:arith .add .i64 (2*r) 1=k:=by rw[hk];exact add64 hA (by omega) (by omega)
  refine hA.roundR Try.func85 r85_ok (zc ?_);rw[e1,e2];refine br (hi<=k) (by rw[e_geq hA]) (fun _=>?_) (fun ck=>?_)<;>refine zc ?_
  ·exact hQ _ L _ _ _ (.inl rfl) t hp (hX.leaf (by omega))
  obtain⟨k1,hk1⟩:∃z,z=k+1:=⟨_,rfl⟩;have e3:arith .add .i64 k 1=k1:=by rw[hk1];exact add64 hA (by omega) (by omega)
  rw[e3];refine br (k1<hi) (by rw[e_lss hA]) (fun ck1=>?_) (fun ck1=>?_)<;>refine zc ?_
  rotate_left
  ·obtain⟨hT,hhT⟩:∃z,z=bump h 22:=⟨_,rfl⟩
   have tT:=t.more (show Ext h hT by rw[hhT];exact ext_bump hA _ _);rw[<-hhT];obtain⟨c,hcd⟩:∃z,z=k:=⟨_,rfl⟩;rw[<-hcd];have hcc:c=2*r+1\/c=2*r+2:=by omega
   have hch:c<hi:=by omega
   have hc:∀k:Int,0<k->k<hi->par k=r->leF (gt L (f+k)) (gt L (f+c)):=fun k' k0 k1' k2=>by
    have:=par_of k2 k0;rw[show k'=c by omega];exact leF_pre.refl _
   have efr:arith .add .i64 f r=f+r:=add64 hA (by omega) (by omega);have efc:arith .add .i64 f c=f+c:=add64 hA (by omega) (by omega);obtain⟨fr,hfr⟩:∃z,z=f+r:=⟨_,rfl⟩;obtain⟨fc,hfc⟩:∃z,z=f+c:=⟨_,rfl⟩;rw[<-hfr]at efr;rw[<-hfc]at efc;obtain⟨h3,hh3⟩:∃z,z=bump hT 16:=⟨_,rfl⟩;have x3:Ext hT h3:=by rw[hh3];exact ext_bump hA _ _
   have t3:=tT.more x3;obtain⟨a3,b3,g3,f3,r3⟩:=t3.read (i:=fr) (by omega) (by omega);obtain⟨a3',b3',g3',f3',r3'⟩:=t3.read (i:=fc) (by omega) (by omega);have q3:=rd_ok hA r3;have q3':=rd_ok hA r3';rw[<-hh3]
   (refine zq ?_;repeat ((first|rw[efr]|rw[efc]);refine zq ?_))
   refine qorder_ok hA (low_fresh hA h3) f3 f3' (fun v h3a hv x3a=>⟨_,rfl,?_⟩);have t3b:=dat_low hA hlow t3 x3a;refine zc ?_;generalize lowered h3 h3a=h3b at *;refine br (0<=v) (by rw[e_bnot hA,e_lss hA];by_cases z:v<0<;>simp[z]<;>omega) (fun cv=>?_) (fun cv=>?_)<;>refine zc ?_
   ·refine hQ _ L _ _ _ (.inr rfl) t3b hp (hX.stop leF_pre hc ?_)
    rw[hv]at cv;rw[<-hfr,<-hfc];exact Rat.not_lt.1 (fun w=>by have:=cmpF_lt.2 w;omega)
   have w:leF (gt L (f+r)) (gt L (f+c)):=by
    rw[hv]at cv;rw[<-hfr,<-hfc];exact Rat.le_of_lt (cmpF_lt.1 (by omega))
   obtain⟨h4,hh4⟩:∃z,z=bump h3b 24:=⟨_,rfl⟩;have x4:Ext h3b h4:=by rw[hh4];exact ext_bump hA _ _
   have t4:=t3b.more x4;obtain⟨a4,b4,g4,f4,r4⟩:=t4.read (i:=fr) (by omega) (by omega);obtain⟨a4',b4',g4',f4',r4'⟩:=t4.read (i:=fc) (by omega) (by omega);have q4:=rd_ok hA r4;have q4':=rd_ok hA r4';rw[<-hh4];obtain⟨h4c,h4d,p4,p4',t4d⟩:=dat_swap hA t4 (i:=fr) (j:=fc) (by omega) (by omega) (by omega) (by omega) g4 g4'
   (refine zq ?_;repeat ((first|rw[efr]|rw[efc]);refine zq ?_))
   refine ih c h4d _ (by omega) (by omega) (by omega) t4d (hp.trans (PermOn.swap L (by omega) (by have:=t.len;omega) (by omega) (by omega) (by omega) (by omega))) ?_;rw[hfr,hfc];exact hX.step leF_pre (by omega) l0 (by have:=t.len;omega) r0 hcc hch hc w
  have efk:arith .add .i64 f k=f+k:=add64 hA (by omega) (by omega);obtain⟨fk,hfk⟩:∃z,z=f+k:=⟨_,rfl⟩;rw[<-hfk]at efk;obtain⟨fk1,hfk1⟩:∃z,z=fk+1:=⟨_,rfl⟩;have efk1:arith .add .i64 fk 1=fk1:=by rw[hfk1];exact add64 hA (by omega) (by omega)
  obtain⟨h2,hh2⟩:∃z,z=bump h 22:=⟨_,rfl⟩;have x2:Ext h h2:=by rw[hh2];exact ext_bump hA _ _
  have t2:=t.more x2;obtain⟨a2,b2,g2,f2,r2⟩:=t2.read (i:=fk) (by omega) (by omega);obtain⟨a2',b2',g2',f2',r2'⟩:=t2.read (i:=fk1) (by omega) (by omega);have q2:=rd_ok hA r2;have q2':=rd_ok hA r2';rw[<-hh2]
  (refine zq ?_;repeat ((first|rw[efk]|rw[efk1]);refine zq ?_))
  refine qorder_ok hA (low_fresh hA h2) f2 f2' (fun u h2a hu x2a=>⟨_,rfl,?_⟩);have t2b:=dat_low hA hlow t2 x2a;refine zc ?_;generalize lowered h2 h2a=h2b at *;have tT:=t2b;generalize h2b=hT at *;refine br (u<0) (by rw[e_lss hA]) (fun cu=>?_) (fun cu=>?_)<;>refine zc ?_
  ·rw[hu]at cu
   rw[e3];obtain⟨c,hcd⟩:∃z,z=k1:=⟨_,rfl⟩;rw[<-hcd];have hcc:c=2*r+1\/c=2*r+2:=by omega
   have hch:c<hi:=by omega
   have hc:∀k:Int,0<k->k<hi->par k=r->leF (gt L (f+k)) (gt L (f+c)):=fun k' k0 k1' k2=>by
    rcases par_of k2 k0 with e|e
    ·rw[show f+k'=fk by omega,show f+c=fk1 by omega]
     exact Rat.le_of_lt (cmpF_lt.1 cu)
    ·rw[show k'=c by omega]
     exact leF_pre.refl _
   have efr:arith .add .i64 f r=f+r:=add64 hA (by omega) (by omega);have efc:arith .add .i64 f c=f+c:=add64 hA (by omega) (by omega);obtain⟨fr,hfr⟩:∃z,z=f+r:=⟨_,rfl⟩;obtain⟨fc,hfc⟩:∃z,z=f+c:=⟨_,rfl⟩;rw[<-hfr]at efr;rw[<-hfc]at efc;obtain⟨h3,hh3⟩:∃z,z=bump hT 16:=⟨_,rfl⟩;have x3:Ext hT h3:=by rw[hh3];exact ext_bump hA _ _
   have t3:=tT.more x3;obtain⟨a3,b3,g3,f3,r3⟩:=t3.read (i:=fr) (by omega) (by omega);obtain⟨a3',b3',g3',f3',r3'⟩:=t3.read (i:=fc) (by omega) (by omega);have q3:=rd_ok hA r3;have q3':=rd_ok hA r3';rw[<-hh3]
   (refine zq ?_;repeat ((first|rw[efr]|rw[efc]);refine zq ?_))
   refine qorder_ok hA (low_fresh hA h3) f3 f3' (fun v h3a hv x3a=>⟨_,rfl,?_⟩);have t3b:=dat_low hA hlow t3 x3a;refine zc ?_;generalize lowered h3 h3a=h3b at *;refine br (0<=v) (by rw[e_bnot hA,e_lss hA];by_cases z:v<0<;>simp[z]<;>omega) (fun cv=>?_) (fun cv=>?_)<;>refine zc ?_
   ·refine hQ _ L _ _ _ (.inr rfl) t3b hp (hX.stop leF_pre hc ?_)
    rw[hv]at cv;rw[<-hfr,<-hfc];exact Rat.not_lt.1 (fun w=>by have:=cmpF_lt.2 w;omega)
   have w:leF (gt L (f+r)) (gt L (f+c)):=by
    rw[hv]at cv;rw[<-hfr,<-hfc];exact Rat.le_of_lt (cmpF_lt.1 (by omega))
   obtain⟨h4,hh4⟩:∃z,z=bump h3b 24:=⟨_,rfl⟩;have x4:Ext h3b h4:=by rw[hh4];exact ext_bump hA _ _
   have t4:=t3b.more x4;obtain⟨a4,b4,g4,f4,r4⟩:=t4.read (i:=fr) (by omega) (by omega);obtain⟨a4',b4',g4',f4',r4'⟩:=t4.read (i:=fc) (by omega) (by omega);have q4:=rd_ok hA r4;have q4':=rd_ok hA r4';rw[<-hh4];obtain⟨h4c,h4d,p4,p4',t4d⟩:=dat_swap hA t4 (i:=fr) (j:=fc) (by omega) (by omega) (by omega) (by omega) g4 g4'
   (refine zq ?_;repeat ((first|rw[efr]|rw[efc]);refine zq ?_))
   refine ih c h4d _ (by omega) (by omega) (by omega) t4d (hp.trans (PermOn.swap L (by omega) (by have:=t.len;omega) (by omega) (by omega) (by omega) (by omega))) ?_;rw[hfr,hfc];exact hX.step leF_pre (by omega) l0 (by have:=t.len;omega) r0 hcc hch hc w
  ·rw[hu]at cu
   obtain⟨c,hcd⟩:∃z,z=k:=⟨_,rfl⟩;rw[<-hcd];have hcc:c=2*r+1\/c=2*r+2:=by omega
   have hch:c<hi:=by omega
   have hc:∀k:Int,0<k->k<hi->par k=r->leF (gt L (f+k)) (gt L (f+c)):=fun k' k0 k1' k2=>by
    rcases par_of k2 k0 with e|e
    ·rw[show k'=c by omega]
     exact leF_pre.refl _
    ·rw[show f+k'=fk1 by omega,show f+c=fk by omega]
     exact Rat.not_lt.1 (fun w=>cu (cmpF_lt.2 w))
   have efr:arith .add .i64 f r=f+r:=add64 hA (by omega) (by omega);have efc:arith .add .i64 f c=f+c:=add64 hA (by omega) (by omega);obtain⟨fr,hfr⟩:∃z,z=f+r:=⟨_,rfl⟩;obtain⟨fc,hfc⟩:∃z,z=f+c:=⟨_,rfl⟩;rw[<-hfr]at efr;rw[<-hfc]at efc;obtain⟨h3,hh3⟩:∃z,z=bump hT 16:=⟨_,rfl⟩;have x3:Ext hT h3:=by rw[hh3];exact ext_bump hA _ _
   have t3:=tT.more x3;obtain⟨a3,b3,g3,f3,r3⟩:=t3.read (i:=fr) (by omega) (by omega);obtain⟨a3',b3',g3',f3',r3'⟩:=t3.read (i:=fc) (by omega) (by omega);have q3:=rd_ok hA r3;have q3':=rd_ok hA r3';rw[<-hh3]
   (refine zq ?_;repeat ((first|rw[efr]|rw[efc]);refine zq ?_))
   refine qorder_ok hA (low_fresh hA h3) f3 f3' (fun v h3a hv x3a=>⟨_,rfl,?_⟩);have t3b:=dat_low hA hlow t3 x3a;refine zc ?_;generalize lowered h3 h3a=h3b at *;refine br (0<=v) (by rw[e_bnot hA,e_lss hA];by_cases z:v<0<;>simp[z]<;>omega) (fun cv=>?_) (fun cv=>?_)<;>refine zc ?_
   ·refine hQ _ L _ _ _ (.inr rfl) t3b hp (hX.stop leF_pre hc ?_)
    rw[hv]at cv;rw[<-hfr,<-hfc];exact Rat.not_lt.1 (fun w=>by have:=cmpF_lt.2 w;omega)
   have w:leF (gt L (f+r)) (gt L (f+c)):=by
    rw[hv]at cv;rw[<-hfr,<-hfc];exact Rat.le_of_lt (cmpF_lt.1 (by omega))
   obtain⟨h4,hh4⟩:∃z,z=bump h3b 24:=⟨_,rfl⟩;have x4:Ext h3b h4:=by rw[hh4];exact ext_bump hA _ _
   have t4:=t3b.more x4;obtain⟨a4,b4,g4,f4,r4⟩:=t4.read (i:=fr) (by omega) (by omega);obtain⟨a4',b4',g4',f4',r4'⟩:=t4.read (i:=fc) (by omega) (by omega);have q4:=rd_ok hA r4;have q4':=rd_ok hA r4';rw[<-hh4];obtain⟨h4c,h4d,p4,p4',t4d⟩:=dat_swap hA t4 (i:=fr) (j:=fc) (by omega) (by omega) (by omega) (by omega) g4 g4'
   (refine zq ?_;repeat ((first|rw[efr]|rw[efc]);refine zq ?_))
   refine ih c h4d _ (by omega) (by omega) (by omega) t4d (hp.trans (PermOn.swap L (by omega) (by have:=t.len;omega) (by omega) (by omega) (by omega) (by omega))) ?_;rw[hfr,hfc];exact hX.step leF_pre (by omega) l0 (by have:=t.len;omega) r0 hcc hch hc w
end Go.Proofs.Ytlimjlpjldijdaa
namespace Go.Proofs.Ytlimjlpjldijdaa
open Go.Sim
set_option maxRecDepth 100000
variable{F:Prims}{call head arith cmp scmp bnot bsame conv neg imax imin ofNat slen place inR nz geZ rd wr push next mkOK nat zeros sadd eqAgg cut slc sslc strAt part app cpy putAt fresh lowered bump wrote addN lt ne fpAll fpApp brk yn rng mget mput mnew bytes clr mrng ment:_}(hA:AP F ⟨call,head,arith,cmp,scmp,bnot,bsame,conv,neg,imax,imin,ofNat,slen,place,inR,nz,geZ,rd,wr,push,next,mkOK,nat,zeros,sadd,eqAgg,cut,slc,sslc,strAt,part,app,cpy,putAt,fresh,lowered,bump,wrote,addN,lt,ne,fpAll,fpApp,brk,yn,rng,mget,mput,mnew,bytes,clr,mrng,ment⟩)
include hA
theorem sift_ok{h0 h:AHeap}(hlow:h0.low<=h0.next){b n c:Nat}{L:List F2}{f lo hi:Int}(f0:0<=f)(l0:0<=lo)(l1:lo<=100000)(hn:f+hi<=n)(t:Dat h0 h b n L)(hX:HeapX leF L f lo hi lo){Q:Value->AHeap->Prop}
  (hQ:∀h' L',Dat h0 h' b n L'->PermOn f (f+hi) L L'->HeapOn leF L' f lo hi->Q (.tuple #[]) h'):call 85 [.slice (some ⟨b,0,none⟩) n c,.int .i64 lo,.int .i64 hi,.int .i64 f,.func (.func 64) #[] #[]] h Q:=by
 have hlow':=hlow
 replace hlow:=t.ext.lowOK hlow
 refine hA.bodyR Try.func85 r85_ok (hA.alike _ _ _ rfl) hlow (zc ?_);refine sift_loop hA hlow' (L0:=L) f0 l0 hn (fun h' L' x e kn hx t' hp hh=>?_) (hi-lo).toNat lo h L (Nat.le_refl _) (Int.le_refl _) l1 t (.refl _ _ _) hX;rcases hx with rfl|rfl
 ·refine zc ?_
  exact hQ h' L' t' hp hh
 ·refine zc ?_
  exact hQ h' L' t' hp hh
theorem build_loop{h0:AHeap}(hlow:h0.low<=h0.next){b n c:Nat}{L0:List F2}{f hi:Int}(f0:0<=f)(hn:f+hi<=n){Q:Exit->SS->Prop}
  (hQ:∀h' L,Dat h0 h' b n L->PermOn f (f+hi) L0 L->HeapOn leF L f 0 hi->Q (.exit 0) ⟨[(0,.slice (some ⟨b,0,none⟩) n c),(3,.func (.func 64) #[] #[]),(8,.int .i64 f),(9,.int .i64 0),(10,.int .i64 hi)],0,[],h'⟩) :
  ∀(m:Nat) (i:Int) (h:AHeap) (L:List F2),(i+1).toNat<=m->-1<=i->i<=100000->Dat h0 h b n L->PermOn f (f+hi) L0 L->HeapOn leF L f (i+1) hi->
   head 76 4 0 ⟨[(0,.slice (some ⟨b,0,none⟩) n c),(3,.func (.func 64) #[] #[]),(8,.int .i64 f),(9,.int .i64 0),(10,.int .i64 hi),(11,.int .i64 i)],0,[],h⟩ Q:=by
 intro m
 induction m with
 |zero=>
  intro i h L hm i0 i1 t hp hh;obtain rfl:i=-1:=by omega
  refine hA.roundR Try.func76 r76_ok (zc ?_);refine br False (by rw[e_geq hA];rfl) (fun q=>q.elim) (fun _=>?_)<;>refine zc ?_;exact hQ h L t hp hh
 |succ m ih=>
  intro i h L hm i0 i1 t hp hh;refine hA.roundR Try.func76 r76_ok (zc ?_);refine br (0<=i) (by rw[e_geq hA]) (fun ci=>?_) (fun ci=>?_)<;>refine zc ?_
  rotate_left
  ·obtain rfl:i=-1:=by omega
   exact hQ h L t hp hh
  refine sift_ok hA hlow f0 ci i1 hn t (.start ci hh) (fun h' L' t' hp' hh'=>?_);refine zc ?_;rw[sub64 hA (by omega) (by omega)];exact ih (i-1) h' L' (by omega) (by omega) (by omega) t' (hp.trans hp') (by rw[show i-1+1=i by omega];exact hh')
theorem pop_loop{h0:AHeap}(hlow:h0.low<=h0.next){b n c:Nat}{L0:List F2}{f B:Int}(f0:0<=f)(hn:B<=n){Q:Exit->SS->Prop}
  (hQ:∀h' L e kn,Dat h0 h' b n L->PermOn f B L0 L->SortedOn leF L f B->Q (.exit 2) ⟨e,kn,[],h'⟩) :
  ∀(m:Nat) (i:Int) (h:AHeap) (L:List F2),(i+1).toNat<=m->-1<=i->f+i<B->Dat h0 h b n L->PermOn f B L0 L->HSort leF L f (f+i+1) B->
   head 76 8 0 ⟨[(0,.slice (some ⟨b,0,none⟩) n c),(3,.func (.func 64) #[] #[]),(8,.int .i64 f),(9,.int .i64 0),(12,.int .i64 i)],0,[],h⟩ Q:=by
 intro m
 induction m with
 |zero=>
  intro i h L hm i0 i1 t hp hh;obtain rfl:i=-1:=by omega
  refine hA.roundR Try.func76 r76_ok (zc ?_);refine br False (by rw[e_geq hA];rfl) (fun q=>q.elim) (fun _=>?_)<;>refine zc ?_;exact hQ h L _ _ t hp (by have:=hh.up;rw[show f + -1+1=f by omega]at this;exact this)
 |succ m ih=>
  intro i h L hm i0 i1 t hp hh;have few:=t.few;refine hA.roundR Try.func76 r76_ok (zc ?_);refine br (0<=i) (by rw[e_geq hA]) (fun ci=>?_) (fun ci=>?_)<;>refine zc ?_
  rotate_left
  ·obtain rfl:i=-1:=by omega
   exact hQ h L _ _ t hp (by have:=hh.up;rw[show f + -1+1=f by omega]at this;exact this)
  have efi:arith .add .i64 f i=f+i:=add64 hA (by omega) (by omega);obtain⟨fi,hfi⟩:∃z,z=f+i:=⟨_,rfl⟩;rw[<-hfi]at efi hh;obtain⟨h2,hh2⟩:∃z,z=bump h 20:=⟨_,rfl⟩;have x2:Ext h h2:=by rw[hh2];exact ext_bump hA _ _
  have t2:=t.more x2;obtain⟨a2,b2,g2,f2,r2⟩:=t2.read (i:=f) (by omega) (by omega);obtain⟨a2',b2',g2',f2',r2'⟩:=t2.read (i:=fi) (by omega) (by omega);have q2:=rd_ok hA r2;have q2':=rd_ok hA r2';rw[<-hh2];obtain⟨h2c,h2d,p2,p2',t2d⟩:=dat_swap hA t2 (i:=f) (j:=fi) (by omega) (by omega) (by omega) (by omega) g2 g2'
  (refine zq ?_;repeat ((first|rw[efi]);refine zq ?_))
  obtain⟨k1,k2,k3⟩:=hh.swap leF_pre f0 (by have:=t.len;omega) (by omega) (by omega);rw[show fi-f=i by omega]at k1;have hsw:=PermOn.swap (a:=f) (b:=B) L (i:=f) (j:=fi) f0 (by have:=t.len;omega) (by omega) (by omega) (by omega) (by omega);refine sift_ok hA hlow f0 (by omega) (by omega) (by omega) t2d k1 (fun h' L' t' hp' hh'=>?_);refine zc ?_;rw[sub64 hA (by omega) (by omega)];rw[<-hfi]at hp';obtain⟨k4,k5⟩:=hp'.keep f0 (by omega) k2 k3;refine ih (i-1) h' L' (by omega) (by omega) (by omega) t' ((hp.trans hsw).trans (hp'.wide f0 (by omega) (by omega))) ?_;rw[show f+(i-1)+1=fi by omega];exact⟨by rw[show fi-f=i by omega];exact hh',k4,k5⟩
theorem heap_ok{h0 h:AHeap}(hlow:h0.low<=h0.next){b n c:Nat}{L:List F2}{A B:Int}(a0:0<=A)(ab:A<B)(bn:B<=n)(t:Dat h0 h b n L){Q:Value->AHeap->Prop}
  (hQ:∀h' L',Dat h0 h' b n L'->PermOn A B L L'->SortedOn leF L' A B->Q (.tuple #[]) h'):call 76 [.slice (some ⟨b,0,none⟩) n c,.int .i64 A,.int .i64 B,.func (.func 64) #[] #[]] h Q:=by
 have hlow':=hlow
 replace hlow:=t.ext.lowOK hlow
 have few:=t.few;obtain⟨hi,hhi⟩:∃z,z=B-A:=⟨_,rfl⟩;have e1:arith .sub .i64 B A=hi:=by rw[hhi];exact sub64 hA (by omega) (by omega)
 obtain⟨hj,hhj⟩:∃z,z=hi-1:=⟨_,rfl⟩;have e2:arith .sub .i64 hi 1=hj:=by rw[hhj];exact sub64 hA (by omega) (by omega)
 have e3:arith .quo .i64 hj 2=hj / 2:=quo64 hA (by omega) (by omega) (by omega);obtain⟨hk,hhk⟩:∃z,z=hj / 2:=⟨_,rfl⟩;rw[<-hhk]at e3;refine hA.bodyR Try.func76 r76_ok (hA.alike _ _ _ rfl) hlow (zc ?_);rw[e1]
 (refine zq ?_;repeat ((first|rw[e2]|rw[e3]);refine zq ?_))
 refine build_loop hA hlow' (L0:=L) (f:=A) (hi:=hi) a0 (by omega) (fun h' L' t' hp hh=>?_) (hk+1).toNat hk h L (Nat.le_refl _) (by omega) (by omega) t (.refl _ _ _) (fun k k0 k1 k2=>by unfold par at k2;omega)
 (refine zq ?_;repeat ((first|rw[e2]);refine zq ?_))
 refine pop_loop hA hlow' (L0:=L) (f:=A) (B:=B) a0 bn (fun h2 L2 e kn t2 hp2 hs=>?_) (hj+1).toNat hj h' L' (Nat.le_refl _) (by omega) (by omega) t' (by rw[show B=A+hi by omega];exact hp) ⟨by rw[show A+hj+1-A=hi by omega];exact hh,fun p q p0 pq q1=>by omega,fun p q p0 p1 q0 q1=>by omega⟩;refine zc ?_;exact hQ h2 L2 t2 hp2 hs
