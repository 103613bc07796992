import Derived.Test.YtmkiclinllifiaaCyE
set_option linter.unusedSimpArgs false
set_option linter.unusedVariables false
namespace Go.Proofs.Ytmkiclinllifiaa
open Go.Sim
set_option maxRecDepth 100000
def circle(c:List Int):Prop:=3<=c.length/\c.length<=8/\apart c
theorem apart_iff{c:List Int}:apart c↔∀p:Int,0<=p->p<c.length->(0<=gt c p/\gt c p<8)/\∀q:Int,0<=q->q<p->gt c p≠gt c q:=by
 constructor
 ·rintro⟨h1,h2⟩ p p0 p1
  refine⟨h1 _ (gt_mem c p0 p1),fun q q0 q1 e=>?_⟩;obtain⟨p',rfl⟩:∃p':Nat,p=p':=⟨p.toNat,by omega⟩;obtain⟨q',rfl⟩:∃q':Nat,q=q':=⟨q.toNat,by omega⟩;have hp:p'<c.length:=by omega
  have hq:q'<c.length:=by omega
  have gp:gt c (p':Int)=c[p']:=by unfold gt;simp[List.getElem?_eq_getElem hp]
  have gq:gt c (q':Int)=c[q']:=by unfold gt;simp[List.getElem?_eq_getElem hq]
  rw[gp,gq]at e;exact List.pairwise_iff_getElem.1 h2 q' p' hq hp (by omega) e.symm
 ·intro h
  refine⟨fun s hs=>?_,?_⟩
  ·obtain⟨j,j0,j1,rfl⟩:=mem_gt hs
   exact(h j j0 j1).1
  ·refine List.pairwise_iff_getElem.2 (fun i j hi hj hij e=>?_)
   have gp:gt c (j:Int)=c[j]:=by unfold gt;simp[List.getElem?_eq_getElem hj]
   have gq:gt c (i:Int)=c[i]:=by unfold gt;simp[List.getElem?_eq_getElem hi]
   exact(h j (by omega) (by omega)).2 i (by omega) (by omega) (by rw[gp,gq];exact e.symm)
variable{F:Prims}{call head arith cmp scmp bnot bsame conv neg imax imin ofNat slen place inR nz geZ rd wr push next mkOK nat zeros sadd eqAgg cut slc sslc strAt part app cpy putAt fresh lowered bump wrote addN lt ne fpAll fpApp brk yn rng mget mput mnew bytes clr mrng ment:_}(hA:AP F ⟨call,head,arith,cmp,scmp,bnot,bsame,conv,neg,imax,imin,ofNat,slen,place,inR,nz,geZ,rd,wr,push,next,mkOK,nat,zeros,sadd,eqAgg,cut,slc,sslc,strAt,part,app,cpy,putAt,fresh,lowered,bump,wrote,addN,lt,ne,fpAll,fpApp,brk,yn,rng,mget,mput,mnew,bytes,clr,mrng,ment⟩)
include hA
theorem rstation_ok{h:AHeap}(hlow:h.low<=h.next){x:Int}{Q:Value->AHeap->Prop}(hQ:∀r:Bool,(r=true↔0<=x/\x<8)->Q (.bool r) h):call 56 [.int .i64 x] h Q:=by
 refine hA.bodyR Try.func56 r56_ok (hA.alike _ _ _ rfl) hlow (zc ?_);refine br (0<=x) (by rw[e_geq hA]) (fun c=>?_) (fun c=>?_)<;>refine zc ?_
 ·rw[e_lss hA]
  exact hQ _ (by simp;omega)
 ·exact hQ _ (by simp;omega)
theorem ap_in{h0:AHeap}(hlow0:h0.low<=h0.next){a:Option Addr}{n cp:Nat}{c:List Int}(hl:Rows iC 1 h0 a n c)(hn:n<=1000){i:Int}(i0:0<=i)(i1:i<n){Q:Exit->SS->Prop}
  (hbad:∀h' k,0<=k->k<i->gt c i=gt c k->Ext h0 h'->∀e kn K,Q .ret ⟨(2,.bool false) :: e,kn,K,h'⟩)
  (hok:∀h',(∀k,0<=k->k<i->gt c i≠gt c k)->Ext h0 h'->∀kn,Q (.exit 2) ⟨[(0,.slice a n cp),(3,.int .i64 i)],kn,[],h'⟩) :
  ∀(m:Nat) (k:Int) (h:AHeap),(i-k).toNat<=m->0<=k->k<=i->(∀j,0<=j->j<k->gt c i≠gt c j)->Ext h0 h->
   head 31 7 0 ⟨[(0,.slice a n cp),(3,.int .i64 i),(4,.int .i64 k)],0,[],h⟩ Q:=by
 have hlen:=hl.len;refine upTo (fun m ih=>?_);intro k h hm k0 k1 hv he;by_cases ci:k<i
 rotate_left
 ·refine hA.roundR Try.func31 r31_ok (zc ?_)
  refine br (k<i) (by rw[e_lss hA]) (fun c1=>absurd c1 ci) (fun c1=>?_)<;>refine zc ?_;exact hok h (fun j j0 j1=>hv j j0 (by omega)) he _
 obtain⟨m,rfl⟩:∃k,m=k+1:=⟨m-1,by omega⟩
 replace ih:=ih m rfl
 obtain⟨h9,hh9⟩:∃z,z=bump h 9:=⟨_,rfl⟩;have e9:Ext h0 h9:=by rw[hh9];exact he.trans (ext_bump hA _ _)
 obtain⟨bb,o,rfl,_,r1⟩:=(hl.ext e9).at (i:=i) i0 (by omega);obtain⟨_,_,hc',_,r2⟩:=(hl.ext e9).at (i:=k) k0 (by omega);cases hc';obtain⟨u,hu⟩:∃u,u=gt c i:=⟨_,rfl⟩;obtain⟨w,hw⟩:∃w,w=gt c k:=⟨_,rfl⟩;have p1:rd h9 bb (place o i 1) 1 [.int .i64 u]:=by rw[hu];exact rd_ok hA (r1 0 1 (by omega) (by omega))
 have p2:rd h9 bb (place o k 1) 1 [.int .i64 w]:=by rw[hw];exact rd_ok hA (r2 0 1 (by omega) (by omega))
 have e2:arith .add .i64 k 1=k+1:=add64 hA (by omega) (by omega);refine hA.roundR Try.func31 r31_ok (zc ?_);refine br (k<i) (by rw[e_lss hA]) (fun c1=>?_) (fun c1=>absurd ci c1)<;>refine zc ?_;rw[<-hh9];refine zq ?_;refine br (w=u) (by rw[e_eql hA]) (fun c2=>?_) (fun c2=>?_)<;>refine zc ?_
 ·exact hbad h9 k k0 ci (by rw[<-hu,<-hw];exact c2.symm) e9 _ _ _
 ·rw[e2]
  refine ih (k+1) h9 (by omega) (by omega) (by omega) (fun j j0 j1=>?_) e9;by_cases z:j=k
  ·rw[z,<-hu,<-hw];exact fun q=>c2 q.symm
  ·exact hv j j0 (by omega)
theorem ap_out{h0:AHeap}(hlow0:h0.low<=h0.next){a:Option Addr}{n cp:Nat}{c:List Int}(hl:Rows iC 1 h0 a n c)(hn:n<=1000){Q:Exit->SS->Prop}
  (hbad:∀h',¬apart c->Ext h0 h'->∀e kn K,Q .ret ⟨(2,.bool false) :: e,kn,K,h'⟩)
  (hok:∀h',apart c->Ext h0 h'->∀e kn K,Q (.exit 0) ⟨e,kn,K,h'⟩) :
  ∀(m:Nat) (i:Int) (h:AHeap),(n-i).toNat<=m->0<=i->i<=n->(∀p:Int,0<=p->p<i->(0<=gt c p/\gt c p<8)/\∀q:Int,0<=q->q<p->gt c p≠gt c q)->Ext h0 h->
   head 31 2 0 ⟨[(0,.slice a n cp),(3,.int .i64 i)],0,[],h⟩ Q:=by
 have hlen:=hl.len;refine upTo (fun m ih=>?_);intro i h hm i0 i1 hv he;by_cases ci:i<n
 rotate_left
 ·refine hA.roundR Try.func31 r31_ok (zc ?_)
  refine br (i<n) (by rw[e_lss hA,e_ofNat hA]) (fun c1=>absurd c1 ci) (fun c1=>?_)<;>refine zc ?_;exact hok h (apart_iff.2 (fun p p0 p1=>hv p p0 (by omega))) he _ _ _
 obtain⟨m,rfl⟩:∃k,m=k+1:=⟨m-1,by omega⟩
 replace ih:=ih m rfl
 have e2:arith .add .i64 i 1=i+1:=add64 hA (by omega) (by omega);obtain⟨bb,o,rfl,_,r1⟩:=(hl.ext he).at (i:=i) i0 (by omega);obtain⟨u,hu⟩:∃u,u=gt c i:=⟨_,rfl⟩;have p1:rd h bb (place o i 1) 1 [.int .i64 u]:=by rw[hu];exact rd_ok hA (r1 0 1 (by omega) (by omega))
 refine hA.roundR Try.func31 r31_ok (zc ?_);refine br (i<n) (by rw[e_lss hA,e_ofNat hA]) (fun c1=>?_) (fun c1=>absurd ci c1)<;>refine zc ?_;refine zq ?_;refine rstation_ok hA (he.lowOK hlow0) (fun r hr=>⟨_,rfl,?_⟩);refine zc ?_;refine br (r=false) (by rw[e_bnot hA];cases r<;>rfl) (fun c2=>?_) (fun c2=>?_)<;>refine zc ?_
 ·refine hbad h (fun q=>?_) he _ _ _
  have:=hr.2 (by rw[hu];exact(apart_iff.1 q i i0 (by omega)).1);rw[c2]at this;cases this
 have hu8:=hr.1 (by cases r with|true=>rfl|false=>exact absurd rfl c2);refine ap_in hA hlow0 hl hn i0 ci (fun h' k k0 k1 hk x e kn K=>?_) (fun h' hne x kn=>?_) i.toNat 0 h (by omega) (by omega) (by omega) (fun j j0 j1=>by omega) he
 ·refine zc ?_
  exact hbad h' (fun q=>(apart_iff.1 q i i0 (by omega)).2 k k0 k1 hk) x _ _ _
 ·refine zc ?_
  rw[e2];refine ih (i+1) h' (by omega) (by omega) (by omega) (fun p p0 p1=>?_) x;by_cases z:p=i
  ·subst z;exact⟨by rw[<-hu];exact hu8,fun q q0 q1=>hne q q0 q1⟩
  ·exact hv p p0 (by omega)
theorem rapart_ok{h:AHeap}(hlow:h.low<=h.next){a:Option Addr}{n cp:Nat}{c:List Int}(hl:Rows iC 1 h a n c)(hn:n<=1000){Q:Value->AHeap->Prop}
  (hQ:∀(r:Bool) h',(r=true↔apart c)->Ext h h'->Q (.bool r) h'):call 31 [.slice a n cp] h Q:=by
 refine hA.bodyR Try.func31 r31_ok (hA.alike _ _ _ rfl) hlow (zc ?_);refine ap_out hA hlow hl hn (fun h' hb x e kn K=>?_) (fun h' hb x e kn K=>?_) n 0 h (by omega) (by omega) (by omega) (fun p p0 p1=>by omega) (.refl h)
 ·refine zc ?_
  exact hQ false h' ⟨(fun q=>by cases q),fun q=>absurd q hb⟩ x
 ·refine zc ?_
  exact hQ true h' ⟨fun _=>hb,fun _=>rfl⟩ x
theorem rcircle_ok{h:AHeap}(hlow:h.low<=h.next){a:Option Addr}{n cp:Nat}{c:List Int}(hl:Rows iC 1 h a n c)(hn:n<=1000){Q:Value->AHeap->Prop}
  (hQ:∀(r:Bool) h',(r=true↔circle c)->Ext h h'->Q (.bool r) h'):call 25 [.slice a n cp] h Q:=by
 have hlen:=hl.len;refine hA.bodyR Try.func25 r25_ok (hA.alike _ _ _ rfl) hlow (zc ?_);refine br (3<=n) (by rw[e_geq hA,e_ofNat hA];simp;omega) (fun c1=>?_) (fun c1=>?_)<;>refine zc ?_
 rotate_left
 ·exact hQ false h ⟨(fun q=>by cases q),fun q=>absurd q.1 (by omega)⟩ (.refl h)
 refine br (n<=8) (by rw[e_leq hA,e_ofNat hA];simp;omega) (fun c2=>?_) (fun c2=>?_)<;>refine zc ?_
 rotate_left
 ·exact hQ false h ⟨(fun q=>by cases q),fun q=>absurd q.2.1 (by omega)⟩ (.refl h)
 refine rapart_ok hA hlow hl hn (fun r h' hr x=>⟨_,rfl,?_⟩);refine zc ?_;exact hQ r h' ⟨fun q=>⟨by omega,by omega,hr.1 q⟩,fun q=>hr.2 q.2.2⟩ x
end Go.Proofs.Ytmkiclinllifiaa
namespace Go.Proofs.Ytmkiclinllifiaa
open Go.Sim
set_option maxRecDepth 100000
def nxC(c:List Int)(k:Int):Int:=gt c ((k+1) % c.length)
def stp(c:List Int)(i j k:Int):Int:=(if gt c k=i/\nxC c k=j then 1 else 0)-(if gt c k=j/\nxC c k=i then 1 else 0)
def stN(c:List Int)(i j:Int):Nat->Int
 |0=>0
 |k+1=>stN c i j k+stp c i j k
def steps(c:List Int)(i j:Int):Int:=stN c i j c.length
theorem stN_bd(c:List Int)(i j:Int):∀k:Nat,-(k:Int)<=stN c i j k/\stN c i j k<=k
 |0=>by simp[stN]
 |k+1=>by
  have:=stN_bd c i j k;simp only[stN,stp];split<;>split<;>omega
variable{F:Prims}{call head arith cmp scmp bnot bsame conv neg imax imin ofNat slen place inR nz geZ rd wr push next mkOK nat zeros sadd eqAgg cut slc sslc strAt part app cpy putAt fresh lowered bump wrote addN lt ne fpAll fpApp brk yn rng mget mput mnew bytes clr mrng ment:_}(hA:AP F ⟨call,head,arith,cmp,scmp,bnot,bsame,conv,neg,imax,imin,ofNat,slen,place,inR,nz,geZ,rd,wr,push,next,mkOK,nat,zeros,sadd,eqAgg,cut,slc,sslc,strAt,part,app,cpy,putAt,fresh,lowered,bump,wrote,addN,lt,ne,fpAll,fpApp,brk,yn,rng,mget,mput,mnew,bytes,clr,mrng,ment⟩)
include hA
theorem st26_loop{h0:AHeap}(hlow0:h0.low<=h0.next){a:Option Addr}{n cp:Nat}{c:List Int}(hl:Rows iC 1 h0 a n c)(hn:n<=1000){i j:Int}{Q:Exit->SS->Prop}
  (hQ:∀h' kn z,z=steps c i j->Ext h0 h'->Q (.exit 0) ⟨[(7,.int .i64 z)],kn,[],h'⟩) :
  ∀(m k:Nat) (K s:Int) (h:AHeap),K=k->s=stN c i j k->n-k<=m->k<=n->Ext h0 h->
   head 26 3 0 ⟨[(0,.slice a n cp),(1,.int .i64 i),(2,.int .i64 j),(7,.int .i64 s),(8,.int .i64 K)],0,[],h⟩ Q:=by
 have hlen:=hl.len;refine upTo (fun m ih=>?_);intro k K s h hK hs hm k1 he;by_cases ci:K<n
 rotate_left
 ·have hkn:k=n:=by omega
  refine hA.roundR Try.func26 r26_ok (zc ?_);refine br (K<n) (by rw[e_lss hA,e_ofNat hA]) (fun c1=>absurd c1 ci) (fun c1=>?_)<;>refine zc ?_;exact hQ h _ s (by rw[hs,hkn,<-hlen];rfl) he
 obtain⟨m,rfl⟩:∃k,m=k+1:=⟨m-1,by omega⟩
 replace ih:=ih m rfl
 obtain⟨h9,hh9⟩:∃z,z=bump h 14:=⟨_,rfl⟩;have e9:Ext h0 h9:=by rw[hh9];exact he.trans (ext_bump hA _ _)
 have K0:0<=K:=by omega
 obtain⟨M,hM⟩:∃M:Int,M=(K+1) % (n:Int):=⟨_,rfl⟩;have M0:0<=M:=by rw[hM];exact Int.emod_nonneg _ (by omega)
 have M1:M<n:=by rw[hM];exact Int.emod_lt_of_pos _ (by omega)
 have e2:arith .add .i64 K 1=K+1:=add64 hA (by omega) (by omega);have e3:arith .rem .i64 (K+1) (ofNat n)=M:=by rw[e_ofNat hA,rem_tmod hA,hM,Int.tmod_eq_emod_of_nonneg (by omega)]
 obtain⟨bb,o,rfl,_,r1⟩:=(hl.ext e9).at (i:=K) K0 (by omega);obtain⟨_,_,hc',_,r2⟩:=(hl.ext e9).at (i:=M) M0 (by omega);cases hc';obtain⟨u,hu⟩:∃u,u=gt c K:=⟨_,rfl⟩;obtain⟨w,hw⟩:∃w,w=gt c M:=⟨_,rfl⟩;have p1:rd h9 bb (place o K 1) 1 [.int .i64 u]:=by rw[hu];exact rd_ok hA (r1 0 1 (by omega) (by omega))
 have p2:rd h9 bb (place o M 1) 1 [.int .i64 w]:=by rw[hw];exact rd_ok hA (r2 0 1 (by omega) (by omega))
 have hbd:=stN_bd c i j k;have hst:stp c i j k=(if u=i/\w=j then 1 else 0)-(if u=j/\w=i then 1 else 0):=by
  unfold stp nxC;rw[hlen,<-hK,<-hM,<-hu,<-hw]
 have nxt:∀s',s'=s+stp c i j k->s'=stN c i j (k+1):=fun s' h'=>by rw[h',hs];rfl
 refine hA.roundR Try.func26 r26_ok (zc ?_);refine br (K<n) (by rw[e_lss hA,e_ofNat hA]) (fun c1=>?_) (fun c1=>absurd ci c1)<;>refine zc ?_;rw[<-hh9];refine zq ?_;refine⟨nz_ok hA (by rw[e_ofNat hA];omega),?_⟩;refine zc ?_;rw[e2,e3];refine zq ?_;obtain⟨K2,hK2⟩:∃z,z=K+1:=⟨_,rfl⟩;have fin:∀s',s'=s+stp c i j k->head 26 3 0 ⟨[(0,.slice (some ⟨bb,o,none⟩) n cp),(1,.int .i64 i),(2,.int .i64 j),(7,.int .i64 s'),(8,.int .i64 K2)],0,[],h9⟩ Q:=fun s' h'=>
  ih (k+1) K2 s' h9 (by omega) (nxt s' h') (by omega) (by omega) e9
 refine br (u=i) (by rw[e_eql hA]) (fun c2=>?_) (fun c2=>?_)<;>refine zc ?_
 ·refine br (w=j) (by rw[e_eql hA]) (fun c3=>?_) (fun c3=>?_)<;>refine zc ?_
  ·obtain⟨s1,hs1⟩:∃z,z=s+1:=⟨_,rfl⟩
   rw[show arith .add .i64 s 1=s1 by rw[hs1];exact add64 hA (by omega) (by omega)];refine br (u=j) (by rw[e_eql hA]) (fun c4=>?_) (fun c4=>?_)<;>refine zc ?_
   ·refine br (w=i) (by rw[e_eql hA]) (fun c5=>?_) (fun c5=>?_)<;>refine zc ?_
    ·rw[show arith .sub .i64 s1 1=s1-1 from sub64 hA (by omega) (by omega),e2,<-hK2]
     exact fin _ (by rw[hst,if_pos ⟨c2,c3⟩,if_pos ⟨c4,c5⟩];omega)
    ·rw[e2,<-hK2]
     exact fin _ (by rw[hst,if_pos ⟨c2,c3⟩,if_neg (fun q=>c5 q.2)];omega)
   ·rw[e2,<-hK2]
    exact fin _ (by rw[hst,if_pos ⟨c2,c3⟩,if_neg (fun q=>c4 q.1)];omega)
  ·refine br (u=j) (by rw[e_eql hA]) (fun c4=>?_) (fun c4=>?_)<;>refine zc ?_
   ·refine br (w=i) (by rw[e_eql hA]) (fun c5=>?_) (fun c5=>?_)<;>refine zc ?_
    ·rw[show arith .sub .i64 s 1=s-1 from sub64 hA (by omega) (by omega),e2,<-hK2]
     exact fin _ (by rw[hst,if_neg (fun q=>c3 q.2),if_pos ⟨c4,c5⟩];omega)
    ·rw[e2,<-hK2]
     exact fin _ (by rw[hst,if_neg (fun q=>c3 q.2),if_neg (fun q=>c5 q.2)];omega)
   ·rw[e2,<-hK2]
    exact fin _ (by rw[hst,if_neg (fun q=>c3 q.2),if_neg (fun q=>c4 q.1)];omega)
 ·refine br (u=j) (by rw[e_eql hA]) (fun c4=>?_) (fun c4=>?_)<;>refine zc ?_
  ·refine br (w=i) (by rw[e_eql hA]) (fun c5=>?_) (fun c5=>?_)<;>refine zc ?_
   ·rw[show arith .sub .i64 s 1=s-1 from sub64 hA (by omega) (by omega),e2,<-hK2]
    exact fin _ (by rw[hst,if_neg (fun q=>c2 q.1),if_pos ⟨c4,c5⟩];omega)
   ·rw[e2,<-hK2]
    exact fin _ (by rw[hst,if_neg (fun q=>c2 q.1),if_neg (fun q=>c5 q.2)];omega)
  ·rw[e2,<-hK2]
   exact fin _ (by rw[hst,if_neg (fun q=>c2 q.1),if_neg (fun q=>c4 q.1)];omega)
theorem steps_ok{h:AHeap}(hlow:h.low<=h.next){a:Option Addr}{n cp:Nat}{c:List Int}(hl:Rows iC 1 h a n c)(hn:n<=1000){i j:Int}{Q:Value->AHeap->Prop}
  (hQ:∀h',Ext h h'->Q (.int .i64 (steps c i j)) h'):call 26 [.slice a n cp,.int .i64 i,.int .i64 j] h Q:=by
 refine hA.bodyR Try.func26 r26_ok (hA.alike _ _ _ rfl) hlow (zc ?_);refine st26_loop hA hlow hl hn (i:=i) (j:=j) (fun h' kn z hz x=>?_) n 0 0 0 h rfl rfl (by omega) (by omega) (.refl h);refine zc ?_;subst hz;exact hQ h' x
