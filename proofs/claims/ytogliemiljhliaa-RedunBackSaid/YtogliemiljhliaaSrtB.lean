import Derived.Test.YtogliemiljhliaaSrtA
set_option linter.unusedSimpArgs false
set_option linter.unusedVariables false
namespace Go.Proofs.Ytogliemiljhliaa
open Go.Sim
set_option maxRecDepth 100000
def StrictI(L:List Int)(a b:Int):Prop:=∀p q:Int,a<=p->p<q->q<b->gt L p<gt L q
theorem StrictI.next{L:List Int}{k:Int}(h:StrictI L 0 k)(k0:1<=k)(w:gt L (k-1)<gt L k):StrictI L 0 (k+1):=by
 intro p q p0 pq q1;by_cases e:q=k
 ·rw[e]
  by_cases e2:p=k-1
  ·rw[e2];exact w
  ·have:=h p (k-1) p0 (by omega) (by omega)
   omega
 ·exact h p q p0 pq (by omega)
structure CmpI(L W:List Int)(k e:Int):Prop where
 k0:1<=k
 ke:k<e
 en:e<=L.length
 len:W.length=L.length
 strict:StrictI W 0 k
 last:gt W (k-1)=gt L (e-1)
 rest:∀j:Int,k<=j->j<L.length->gt W j=gt L j
 m1:∀p:Int,0<=p->p<k->∃q:Int,0<=q/\q<e/\gt W p=gt L q
 m2:∀q:Int,0<=q->q<e->∃p:Int,0<=p/\p<k/\gt W p=gt L q
theorem OwnI.rowsAhead{α:Type}{enc:α->List Value}{es:Nat}{h:AHeap}{b:Nat}{l:List α}{r:List Value}(c:Own h b es (l.flatMap enc++r))(he:∀x,(enc x).length=es)(hp:0<es)(hb:b<h.next):Rows enc es h (some ⟨b,0,none⟩) l.length l:=by
 refine⟨⟨rfl,hb,?_⟩,he,hp⟩;have hl:=flatE_len he (l:=l);have:=c.readG (o:=0) (n:=l.length*es) (by rw[List.length_append];omega);rw[this,List.drop_zero,<-hl,List.take_left'];rfl
theorem takeI_flat(W:List Int):∀k:Nat,(W.flatMap iC).take (k*1)=(W.take k).flatMap iC:=by
 induction W with
 |nil=>intro k;simp
 |cons x W ih=>
  intro k;cases k with
  |zero=>simp
  |succ k=>
   rw[List.take_succ_cons,List.flatMap_cons,List.flatMap_cons,<-ih k,show(k+1)*1=(iC x).length+k*1 by rw[iC_len];omega,List.take_length_add_append]
theorem copiesI_len(m:Nat):(copies [.int .i64 0] m).length=m*1/\(copies [.int .i64 0] m).all cellOK=true:=by
 induction m with
 |zero=>exact⟨rfl,rfl⟩
 |succ m ih=>
  unfold copies;constructor
  ·rw[List.length_append,ih.1];simp;omega
  ·rw[List.all_append,ih.2];rfl
theorem gtI_take{α:Type}[Inhabited α](W:List α){k:Nat}{p:Int}(p0:0<=p)(p1:p<k):gt (W.take k) p=gt W p:=by
 unfold gt;rw[List.getD_eq_getElem?_getD,List.getD_eq_getElem?_getD,List.getElem?_take];rw[if_pos (by omega)]
theorem CmpI.skip{L W:List Int}{k e:Int}(h:CmpI L W k e)(en:e<L.length)(w:gt L e=gt L (e-1)):CmpI L W k (e+1):=by
 have k0:=h.k0;have ke:=h.ke;refine⟨h.k0,by omega,by omega,h.len,h.strict,?_,h.rest,fun p p0 p1=>?_,fun q q0 q1=>?_⟩
 ·rw[h.last,<-w];congr 1;omega
 ·obtain⟨q,a,b,c⟩:=h.m1 p p0 p1
  exact⟨q,a,by omega,c⟩
 ·by_cases z:q=e
  ·exact⟨k-1,by omega,by omega,by rw[z,w,h.last]⟩
  ·exact h.m2 q q0 (by omega)
theorem CmpI.put{L W:List Int}{k e:Int}(h:CmpI L W k e)(en:e<L.length)(w:gt L (e-1)<gt L e):CmpI L (W.set k.toNat (gt L e)) (k+1) (e+1):=by
 have k0:=h.k0;have ke:=h.ke;have len:=h.len;have g:∀j:Int,0<=j->gt (W.set k.toNat (gt L e)) j=if j=k then gt L e else gt W j:=fun j j0=>gt_set W (by omega) j0 (by omega) _
 refine⟨by omega,by omega,by omega,by rw[List.length_set];exact len,?_,?_,fun j j0 j1=>?_,fun p p0 p1=>?_,fun q q0 q1=>?_⟩
 ·refine StrictI.next (fun p q p0 pq q1=>?_) k0 ?_
  ·rw[g p p0,g q (by omega),if_neg (by omega),if_neg (by omega)]
   exact h.strict p q p0 pq q1
  ·rw[g _ (by omega),g _ (by omega),if_neg (by omega),if_pos rfl,h.last]
   exact w
 ·rw[g _ (by omega),if_pos (by omega)];congr 1;omega
 ·rw[g _ (by omega),if_neg (by omega)];exact h.rest j (by omega) j1
 ·rw[g p p0]
  split
  ·exact⟨e,by omega,by omega,rfl⟩
  ·obtain⟨q,a,b,c⟩:=h.m1 p p0 (by omega)
   exact⟨q,a,by omega,c⟩
 ·by_cases z:q=e
  ·exact⟨k,by omega,by omega,by rw[g _ (by omega),if_pos rfl,z]⟩
  ·obtain⟨p,a,b,c⟩:=h.m2 q q0 (by omega)
   exact⟨p,a,by omega,by rw[g p a,if_neg (by omega)];exact c⟩
theorem CmpI.start{L:List Int}{k:Int}(k0:1<=k)(k1:k<L.length)(s:StrictI L 0 k)(w:gt L k=gt L (k-1)):CmpI L L k (k+1):=by
 refine⟨k0,by omega,by omega,rfl,s,by rw[<-w];congr 1;omega,fun _ _ _=>rfl,fun p p0 p1=>⟨p,p0,by omega,rfl⟩,fun q q0 q1=>?_⟩;by_cases z:q=k
 ·exact⟨k-1,by omega,by omega,by rw[z,w]⟩
 ·exact⟨q,q0,by omega,rfl⟩
variable{F:Prims}{call head arith a0 b0 c0 d0 e0 f0 g0 i0 l0 m0 place n0 nz o0 rd wr r0 next s0 t0 u0 v0 w0 cut slc x0 y0 z0 b1 c1 d1 f1 g1 bump i1 l1 lt ne o1 r1 s1 yn t1 u1 v1 w1 x1 y1:_}(hA:AP F ⟨call,head,arith,a0,b0,c0,d0,e0,f0,g0,i0,l0,m0,place,n0,nz,o0,rd,wr,r0,next,s0,t0,u0,v0,w0,cut,slc,x0,y0,z0,b1,c1,d1,f1,g1,bump,i1,l1,lt,ne,o1,r1,s1,yn,t1,u1,v1,w1,x1,y1⟩)
include hA
theorem cmpI_2{h0:AHeap}(hlow:h0.low<=h0.next){b n c c' o2 n2:Nat}(hc:c=someCap 1 n){L:List Int}{k0:Int}(ho:o2=k0.toNat*1)(hn2:(n2:Int)=n-k0)(k1:1<=k0)(kn:k0<n)(hL:L.length=n)(hs:SortedOn leI L 0 n){Q:Exit->SS->Prop}
  (hQ:∀h' W k,DatI h0 h' b n W->CmpI L W k n->Q (.exit 2) ⟨[(0,.slice (some ⟨b,0,none⟩) n c),(3,.int .i64 k)],10,[],h'⟩) :
  ∀(m:Nat) (k j:Int) (h:AHeap) (W:List Int),(n-(k0+j)).toNat<=m->1<=j->k0+j<=n->DatI h0 h b n W->CmpI L W k (k0+j)->
   head 59 9 10 ⟨[(0,.slice (some ⟨b,0,none⟩) n c),(3,.int .i64 k),(4,.slice (some ⟨b,o2,none⟩) n2 c'),(5,.int .i64 j)],10,[],h⟩ Q:=by
 intro m
 induction m with
 |zero=>
  intro k j h W hm j0 j1 t hC;refine hA.roundR Try.func59 r59_ok (zc ?_);refine br (j<n2) (by rw[e_lss hA,e_ofNat hA]) (fun q=>by omega) (fun q=>?_)<;>refine zc ?_;exact hQ _ _ _ t (by rwa [show k0+j=n by omega]at hC)
 |succ m ih=>
  intro k j h W hm j0 j1 t hC;have few:=t.few;refine hA.roundR Try.func59 r59_ok (zc ?_);refine br (j<n2) (by rw[e_lss hA,e_ofNat hA]) (fun q=>?_) (fun q=>?_)<;>refine zc ?_
  rotate_left
  ·exact hQ _ _ _ t (by rwa [show k0+j=n by omega]at hC)
  have few':n2<=100000:=by omega
  have hlen:=t.len;obtain⟨j',hj'⟩:∃z,z=j-1:=⟨_,rfl⟩;have e1:arith .sub .i64 j 1=j':=by rw[hj'];exact sub64 hA (by omega) (by omega)
  have e2:arith .add .i64 j 1=j+1:=add64 hA (by omega) (by omega);have e3:arith .add .i64 k 1=k+1:=add64 hA (by have:=hC.k0;have:=hC.ke;omega) (by have:=hC.ke;omega);obtain⟨h2,hh2⟩:∃z,z=bump h 10:=⟨_,rfl⟩;have x2:Ext h h2:=by rw[hh2];exact ext_bump hA _ _
  have t2:=t.more x2;obtain⟨a2,g2,r2⟩:=t2.read (i:=k0+j) (by omega) (by omega);obtain⟨a2',g2',r2'⟩:=t2.read (i:=k0+j') (by omega) (by omega);rw[show 0+(k0+j).toNat*1=o2+j.toNat*1 by omega]at r2;rw[show 0+(k0+j').toNat*1=o2+j'.toNat*1 by omega]at r2';have q2:=rd_ok hA r2;have q2':=rd_ok hA r2';rw[<-hh2]
  (refine zq ?_;repeat ((first|rw[e1]);refine zq ?_))
  have k0':=hC.k0;have ke:=hC.ke;have L1:gt W (k0+j)=gt L (k0+j):=hC.rest _ (by omega) (by omega);have L2:gt W (k0+j')=gt L (k0+j-1):=by rw[show k0+j-1=k0+j' by omega];exact hC.rest _ (by omega) (by omega)
  rw[g2]at L1;rw[g2']at L2;refine br (a2≠a2') (by rw[e_neq hA]) (fun ne=>?_) (fun eq=>?_)<;>refine zc ?_
  ·obtain⟨h3,w3,t3,_⟩:=t2.put (i:=k) (by omega) (by omega) (x:=gt L (k0+j))
   rw[<-L1]at w3;have p3:wr h2 b (place 0 k 1) [.int .i64 a2] h3:=wr_ok hA (by rw[Nat.zero_add];exact w3);refine zq ?_;rw[e3,e2];have lt:gt L (k0+j-1)<gt L (k0+j):=by
    have h1:=hs (k0+j-1) (k0+j) (by omega) (by omega) (by omega);unfold leI at h1;omega
   exact ih (k+1) (j+1) h3 _ (by omega) (by omega) (by omega) t3 (by have:=hC.put (by omega) lt;rwa [show k0+j+1=k0+(j+1) by omega,L1]at *)
  ·rw[e2]
   exact ih k (j+1) h2 W (by omega) (by omega) (by omega) t2 (by have:=hC.skip (by omega) (by omega);rwa [show k0+j+1=k0+(j+1) by omega]at this)
theorem cmpI_1{h0:AHeap}(hlow:h0.low<=h0.next){b n c:Nat}(hc:c=someCap 1 n){L:List Int}(hs:SortedOn leI L 0 n){Q:Exit->SS->Prop}
  (hQ:∀h' W (k:Nat) e kn,k<=n->Ext h0 h'->Is h' (some ⟨b,0,none⟩) k W->StrictI W 0 k->(∀p:Int,0<=p->p<k->∃q:Int,0<=q/\q<n/\gt W p=gt L q)->(∀q:Int,0<=q->q<n->∃p:Int,0<=p/\p<k/\gt W p=gt L q)->Q .ret ⟨(2,.slice (some ⟨b,0,none⟩) k c) :: e,kn,[],h'⟩)
  (hQ2:∀h' kn,DatI h0 h' b n L->StrictI L 0 n->Q (.exit 0) ⟨[(0,.slice (some ⟨b,0,none⟩) n c)],kn,[],h'⟩) :
  ∀(m:Nat) (k:Int) (h:AHeap),(n-k).toNat<=m->1<=k->k<=n->DatI h0 h b n L->StrictI L 0 k->
   head 59 4 0 ⟨[(0,.slice (some ⟨b,0,none⟩) n c),(3,.int .i64 k)],0,[],h⟩ Q:=by
 intro m
 induction m with
 |zero=>
  intro k h hm k0 k1 t hC;refine hA.roundR Try.func59 r59_ok (zc ?_);refine br (k<n) (by rw[e_lss hA,e_ofNat hA]) (fun q=>by omega) (fun q=>?_)<;>refine zc ?_;exact hQ2 _ _ t (by rwa [show k=n by omega]at hC)
 |succ m ih=>
  intro k h hm k0 k1 t hC;have few:=t.few;refine hA.roundR Try.func59 r59_ok (zc ?_);refine br (k<n) (by rw[e_lss hA,e_ofNat hA]) (fun ck=>?_) (fun q=>?_)<;>refine zc ?_
  rotate_left
  ·exact hQ2 _ _ t (by rwa [show k=n by omega]at hC)
  obtain⟨k',hk'⟩:∃z,z=k-1:=⟨_,rfl⟩;have e1:arith .sub .i64 k 1=k':=by rw[hk'];exact sub64 hA (by omega) (by omega)
  have e2:arith .add .i64 k 1=k+1:=add64 hA (by omega) (by omega);obtain⟨h2,hh2⟩:∃z,z=bump h 10:=⟨_,rfl⟩;have x2:Ext h h2:=by rw[hh2];exact ext_bump hA _ _
  have t2:=t.more x2;obtain⟨a2,g2,r2⟩:=t2.read (i:=k) (by omega) (by omega);obtain⟨a2',g2',r2'⟩:=t2.read (i:=k') (by omega) (by omega);have q2:=rd_ok hA r2;have q2':=rd_ok hA r2';rw[<-hh2]
  (refine zq ?_;repeat ((first|rw[e1]);refine zq ?_))
  refine br (a2=a2') (by rw[e_eql hA]) (fun eq=>?_) (fun ne=>?_)<;>refine zc ?_
  rotate_left
  ·rw[e2]
   refine ih (k+1) h2 (by omega) (by omega) (by omega) t2 (hC.next k0 ?_);have h1:=hs (k-1) k (by omega) (by omega) ck;unfold leI at h1;rw[<-hk']at h1 ⊢;omega
  ·obtain⟨o2,ho⟩:∃z,z=k.toNat*1:=⟨_,rfl⟩
   obtain⟨n2,hn2⟩:∃z,z=n-k.toNat:=⟨_,rfl⟩;obtain⟨c2,hc2⟩:∃z,z=someCap 1 n2:=⟨_,rfl⟩;have cut:∀(C:Option Addr->Nat->Nat->Prop),C (some ⟨b,o2,none⟩) n2 c2->slc 22 (.slice (some ⟨b,0,none⟩) n c) (some (.int .i64 k)) none none C:=fun C h=>by
    rw[hc];refine slc_lo hA TI (by omega) (by omega) ck ?_;have:(some ⟨b,0,none⟩:Option Addr).map (aadd · (k.toNat*1))=some ⟨b,o2,none⟩:=by rw[ho];simp[aadd]
    rw[this,<-hn2,<-hc2];exact h
   refine cut _ ?_;refine zc ?_;refine cmpI_2 hA hlow (n:=n) (n2:=n2) (L:=L) hc ho (k0:=k) (by omega) k0 ck t.len hs (fun h3 W k3 t3 hC3=>?_) (n-(k+1)).toNat k 1 h2 L (by omega) (Int.le_refl _) (by omega) t2 (CmpI.start k0 (by rw[t.len];exact ck) hC (by rw[<-hk'];omega));refine zc ?_;have k5:=hC3.k0;have k6:=hC3.ke;have k7:=hC3.len;have few:=t.few;obtain⟨kk,hkk⟩:∃z:Nat,z=k3.toNat:=⟨_,rfl⟩;obtain⟨h4,w4,o4,r4⟩:=t3.own.write (o:=kk*1) (vs:=copies [.int .i64 0] (n-kk)) (by rw[(copiesI_len _).1,flatE_len iC_len,t3.len];omega);rw[takeI_flat]at o4;have hlen:(W.take kk).length=kk:=by rw[List.length_take,t3.len];omega
   have ro:=OwnI.rowsAhead o4 iC_len (by omega) (by rw[r4.next];exact t3.lt);rw[hlen]at ro;have x4:Ext h0 h4:=r4.ext t3.ext t3.old;refine(?_:∀(C:Option Addr->Nat->Nat->Prop),C (some ⟨b,kk*1,none⟩) (n-kk) (someCap 1 (n-kk))->slc 22 (.slice (some ⟨b,0,none⟩) n c) (some (.int .i64 k3)) none none C) _ ?_
   ·intro C h
    rw[hc];refine slc_lo hA TI (by omega) (by omega) k6 ?_;have:(some ⟨b,0,none⟩:Option Addr).map (aadd · (k3.toNat*1))=some ⟨b,kk*1,none⟩:=by rw[hkk];simp[aadd]
    rw[this,<-hkk];exact h
   obtain⟨o5,ho5⟩:∃z,z=kk*1:=⟨_,rfl⟩;obtain⟨n5,hn5⟩:∃z,z=n-kk:=⟨_,rfl⟩;obtain⟨c5,hc5⟩:∃z,z=someCap 1 n5:=⟨_,rfl⟩;rw[<-hn5,<-hc5,<-ho5];refine zc ?_;refine⟨h4,clr_ok hA TI (by omega) (z:=.int .i64 0) (by kernel_rfl) (copiesI_len _).2 (by rw[hn5,ho5];exact w4),?_⟩;refine zc ?_;refine⟨by rw[e_cut hA,hc,capLow_some (by unfold slack;omega)];omega,?_⟩;refine zc ?_;rw[e_nat hA,<-hkk];refine hQ h4 _ kk _ _ (by omega) x4 ro (fun p q p0 pq q1=>?_) (fun p p0 p1=>?_) (fun q q0 q1=>?_)
   ·rw[gtI_take W p0 (by omega),gtI_take W (by omega) q1]
    exact hC3.strict p q p0 pq (by omega)
   ·rw[gtI_take W p0 p1]
    exact hC3.m1 p p0 (by omega)
   ·obtain⟨p,p0,p1,e⟩:=hC3.m2 q q0 q1
    exact⟨p,p0,by omega,by rw[gtI_take W p0 (by omega)];exact e⟩
theorem compactI_ok{h0 h:AHeap}(hlow:h0.low<=h0.next){b n c:Nat}(hc:c=someCap 1 n)(n1:1<=n){L:List Int}(t:DatI h0 h b n L)(hs:SortedOn leI L 0 n){Q:Value->AHeap->Prop}
  (hQ:∀h' W (k:Nat),1<=k->k<=n->Ext h0 h'->Is h' (some ⟨b,0,none⟩) k W->StrictI W 0 k->(∀x,x∈W↔x∈L)->Q (.slice (some ⟨b,0,none⟩) k c) h'):call 59 [.slice (some ⟨b,0,none⟩) n c] h Q:=by
 have hlow':=hlow
 replace hlow:=t.ext.lowOK hlow
 have few:=t.few;have lL:=t.len;have mem:∀(W:List Int) (k:Nat),W.length=k->(∀p:Int,0<=p->p<k->∃q:Int,0<=q/\q<n/\gt W p=gt L q)->(∀q:Int,0<=q->q<n->∃p:Int,0<=p/\p<k/\gt W p=gt L q)->∀x,x∈W↔x∈L:=fun W k lW m1 m2 x=>by
  constructor
  ·intro hx
   obtain⟨p,p0,p1,rfl⟩:=mem_gt hx;obtain⟨q,q0,q1,e⟩:=m1 p p0 (by omega);rw[e];exact gt_mem L q0 (by omega)
  ·intro hx
   obtain⟨q,q0,q1,rfl⟩:=mem_gt hx;obtain⟨p,p0,p1,e⟩:=m2 q q0 (by omega);rw[<-e];exact gt_mem W p0 (by omega)
 refine hA.bodyR Try.func59 r59_ok (hA.alike _ _ _ rfl) hlow (zc ?_);refine br ((n:Int)<2) (by rw[e_lss hA,e_ofNat hA]) (fun q=>?_) (fun _=>?_)<;>refine zc ?_
 ·exact hQ h L n n1 (Nat.le_refl _) t.ext t.rows (fun p q p0 pq q1=>by omega) (fun x=>Iff.rfl)
 refine cmpI_1 hA hlow' hc hs (fun h' W k e kn a1 a2 a3 a4 a5 a6=>?_) (fun h' kn t' s'=>?_) n 1 h (by omega) (Int.le_refl _) (by omega) t (fun p q p0 pq q1=>by omega)
 ·refine zc ?_
  obtain⟨p,p0,p1,_⟩:=a6 0 (by omega) (by omega);exact hQ h' W k (by omega) a1 a2 a3 a4 (mem W k a3.len a5 a6)
 ·refine zc ?_
  exact hQ h' L n n1 (Nat.le_refl _) t'.ext t'.rows s' (fun x=>Iff.rfl)
