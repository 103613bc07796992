import Derived.Test.YtmkiclinllifiaaCyE
set_option linter.unusedSimpArgs false
set_option linter.unusedVariables false
namespace Go.Proofs.Ytmkiclinllifiaa
open Go.Sim
set_option maxRecDepth 100000
def apart(c:List Int):Prop:=(∀s∈c,0<=s/\s<8)/\c.Nodup
structure RB8(B:List Bool)(c:List Int):Prop where
 len:B.length=8
 val:∀x:Int,0<=x->x<8->(B.getD x.toNat false=true↔x∈c)
theorem RB8.set{B:List Bool}{c:List Int}(h:RB8 B c){s:Int}(s0:0<=s)(s1:s<8):RB8 (B.set s.toNat true) (c++[s]):=by
 refine⟨by rw[List.length_set];exact h.len,fun x x0 x1=>?_⟩;rw[List.getD_eq_getElem?_getD,List.getElem?_set,List.mem_append,List.mem_singleton];by_cases e:x=s
 ·rw[e,if_pos rfl,if_pos (by rw[h.len];omega)]
  exact⟨fun _=>.inr rfl,fun _=>rfl⟩
 ·rw[if_neg (by omega),<-List.getD_eq_getElem?_getD,h.val x x0 x1]
  exact⟨.inl,fun q=>q.elim id (fun q=>absurd q e)⟩
variable{F:Prims}{call head arith cmp scmp bnot bsame conv neg imax imin ofNat slen place inR nz geZ rd wr push next mkOK nat zeros sadd eqAgg cut slc sslc strAt part app cpy putAt fresh lowered bump wrote addN lt ne fpAll fpApp brk yn rng mget mput mnew bytes clr mrng ment:_}(hA:AP F ⟨call,head,arith,cmp,scmp,bnot,bsame,conv,neg,imax,imin,ofNat,slen,place,inR,nz,geZ,rd,wr,push,next,mkOK,nat,zeros,sadd,eqAgg,cut,slc,sslc,strAt,part,app,cpy,putAt,fresh,lowered,bump,wrote,addN,lt,ne,fpAll,fpApp,brk,yn,rng,mget,mput,mnew,bytes,clr,mrng,ment⟩)
include hA
theorem df_loop{h0:AHeap}(hlow0:h0.low<=h0.next){a:Option Addr}{n cp:Nat}{N:Int}(hN:N=n){c:List Int}(hl:Rows iC 1 h0 a n c)(hn:n<=1000){b3 es:Nat}(hb3:h0.next<=b3){Q:Exit->SS->Prop}
  (hbad:∀h',¬apart c->Ext h0 h'->∀e kn K,Q .ret ⟨(2,.bool false) :: e,kn,K,h'⟩)
  (hok:∀h',apart c->Ext h0 h'->∀e kn K,Q (.exit 0) ⟨e,kn,K,h'⟩) :
  ∀(m:Nat) (i:Int) (h:AHeap) (B:List Bool),(n-i).toNat<=m->0<=i->i<=n->Own h b3 es (B.map Value.bool)->b3<h.next->RB8 B (c.take i.toNat)->apart (c.take i.toNat)->Ext h0 h->
   head 57 3 0 ⟨[(3,.pointer (some ⟨b3,0,none⟩)),(6,.slice a n cp),(7,.int .i64 N),(8,.int .i64 i)],0,[],h⟩ Q:=by
 have hlen:=hl.len;refine upTo (fun m ih=>?_);intro i h B hm i0 i1 ho hb hr hd he;by_cases ci:i<n
 rotate_left
 ·refine hA.roundR Try.func57 r57_ok (zc ?_)
  refine br (i<N) (by rw[e_lss hA]) (fun c1=>by omega) (fun c1=>?_)<;>refine zc ?_;rw[List.take_of_length_le (by omega)]at hd;exact hok h hd he _ _ _
 obtain⟨m,rfl⟩:∃k,m=k+1:=⟨m-1,by omega⟩
 replace ih:=ih m rfl
 obtain⟨bb,o,rfl,_,r1⟩:=(hl.ext he).at (i:=i) i0 (by omega);obtain⟨v,hv⟩:∃v,v=gt c i:=⟨_,rfl⟩;have q1:rd h bb (place o i 1) 1 [.int .i64 v]:=by rw[hv];exact rd_ok hA (r1 0 1 (by omega) (by omega))
 have e2:arith .add .i64 i 1=i+1:=add64 hA (by omega) (by omega);have htk:=gt_take c i0 (by omega);rw[<-hv]at htk;have hmem:v∈c:=by rw[hv];exact gt_mem c i0 (by omega)
 refine hA.roundR Try.func57 r57_ok (zc ?_);refine br (i<N) (by rw[e_lss hA]) (fun c1=>?_) (fun c1=>by omega)<;>refine zc ?_;refine zq ?_;refine station_ok hA (he.lowOK hlow0) (fun r hr'=>⟨_,rfl,?_⟩);refine zc ?_;refine br (r=false) (by rw[e_bnot hA];cases r<;>rfl) (fun c2=>?_) (fun c2=>?_)<;>refine zc ?_
 ·exact hbad h (fun q=>by have:=hr'.2 (q.1 v hmem);rw[c2]at this;cases this) he _ _ _
 obtain⟨v0,v8⟩:=hr'.1 (by cases r with|true=>rfl|false=>exact absurd rfl c2);obtain⟨vi,hvi⟩:∃z,z=B.getD v.toNat false:=⟨_,rfl⟩;have lb:=hr.len;have p3:rd h b3 (place 0 v 1) 1 [.bool vi]:=by rw[hvi];exact rd_ok hA (by rw[Nat.zero_add,Nat.mul_one];exact getB ho (by omega))
 have hval:=hr.val v v0 v8;rw[<-hvi]at hval;refine zq ?_;refine br (vi=true) (by simp) (fun c3=>?_) (fun c3=>?_)<;>refine zc ?_
 ·refine hbad h (fun q=>?_) he _ _ _
  have nd:(c.take (i+1).toNat).Nodup:=q.2.sublist (List.take_sublist _ _);rw[htk,List.nodup_append]at nd;exact nd.2.2 _ (hval.1 c3) _ (List.mem_singleton.2 rfl) rfl
 obtain⟨h11,w11,o11,k11⟩:=setB ho (i:=v.toNat) (by omega) true;refine zq ?_;refine⟨h11,wr_ok hA (by rw[Nat.zero_add,Nat.mul_one];exact w11),?_⟩;refine zc ?_;rw[e2];have n11:=k11.next;refine ih (i+1) h11 (B.set v.toNat true) (by omega) (by omega) (by omega) o11 (by omega) (by rw[htk];exact hr.set v0 v8) ?_ (k11.ext he hb3);rw[htk];refine⟨fun s hs=>?_,?_⟩
 ·rcases List.mem_append.1 hs with z|z
  ·exact hd.1 s z
  ·rw[List.mem_singleton.1 z];exact⟨v0,v8⟩
 ·rw[List.nodup_append]
  refine⟨hd.2,List.nodup_cons.2 ⟨by simp,List.nodup_nil⟩,fun u hu w hw e=>?_⟩;rw[List.mem_singleton.1 hw]at e;exact c3 (hval.2 (by rw[<-e];exact hu))
theorem different_ok{h:AHeap}(hlow:h.low<=h.next){a:Option Addr}{n cp:Nat}{c:List Int}(hl:Rows iC 1 h a n c)(hn:n<=1000){Q:Value->AHeap->Prop}
  (hQ:∀(r:Bool) h',(r=true↔apart c)->Ext h h'->Q (.bool r) h'):call 57 [.slice a n cp] h Q:=by
 refine hA.bodyR Try.func57 r57_ok (hA.alike _ _ _ rfl) hlow (zc ?_);simp only[e_next hA,e_push hA,e_ofNat hA];have ex:=Ext.push h 8 ((List.replicate 8 false).map Value.bool);have ox:=Own.push h 8 ((List.replicate 8 false).map Value.bool);refine df_loop hA hlow rfl hl hn (b3:=h.next) (es:=8) (Nat.le_refl _) (fun h2 hd x2 e kn K=>?_) (fun h2 hd x2 e kn K=>?_) n 0 _ (List.replicate 8 false) (by omega) (by omega) (by omega) ox (by show h.next<h.next+1;omega) ⟨by simp,fun x x0 x1=>?_⟩ ⟨by simp,by simp⟩ ex
 ·refine zc ?_
  exact hQ false h2 ⟨(fun q=>by cases q),fun q=>absurd q hd⟩ x2
 ·refine zc ?_
  exact hQ true h2 ⟨fun _=>hd,fun _=>rfl⟩ x2
 ·rw[List.getD_eq_getElem?_getD,List.getElem?_replicate]
  split<;>simp
end Go.Proofs.Ytmkiclinllifiaa
namespace Go.Proofs.Ytmkiclinllifiaa
open Go.Sim
set_option maxRecDepth 100000
def circle(c:List Int):Prop:=3<=c.length/\c.length<=8/\apart c
theorem apart_iff{c:List Int}:apart c↔∀p:Int,0<=p->p<c.length->(0<=gt c p/\gt c p<8)/\∀q:Int,0<=q->q<p->gt c p≠gt c q:=by
 constructor
 ·rintro⟨h1,h2⟩ p p0 p1
  refine⟨h1 _ (gt_mem c p0 p1),fun q q0 q1 e=>?_⟩;obtain⟨p',rfl⟩:∃p':Nat,p=p':=⟨p.toNat,by omega⟩;obtain⟨q',rfl⟩:∃q':Nat,q=q':=⟨q.toNat,by omega⟩;have hp:p'<c.length:=by omega
  have hq:q'<c.length:=by omega
  have gp:gt c (p':Int)=c[p']:=by unfold gt;simp[List.getElem?_eq_getElem hp]
  have gq:gt c (q':Int)=c[q']:=by unfold gt;simp[List.getElem?_eq_getElem hq]
  rw[gp,gq]at e;exact List.pairwise_iff_getElem.1 h2 q' p' hq hp (by omega) e.symm
 ·intro h
  refine⟨fun s hs=>?_,?_⟩
  ·obtain⟨j,j0,j1,rfl⟩:=mem_gt hs
   exact(h j j0 j1).1
  ·refine List.pairwise_iff_getElem.2 (fun i j hi hj hij e=>?_)
   have gp:gt c (j:Int)=c[j]:=by unfold gt;simp[List.getElem?_eq_getElem hj]
   have gq:gt c (i:Int)=c[i]:=by unfold gt;simp[List.getElem?_eq_getElem hi]
   exact(h j (by omega) (by omega)).2 i (by omega) (by omega) (by rw[gp,gq];exact e.symm)
variable{F:Prims}{call head arith cmp scmp bnot bsame conv neg imax imin ofNat slen place inR nz geZ rd wr push next mkOK nat zeros sadd eqAgg cut slc sslc strAt part app cpy putAt fresh lowered bump wrote addN lt ne fpAll fpApp brk yn rng mget mput mnew bytes clr mrng ment:_}(hA:AP F ⟨call,head,arith,cmp,scmp,bnot,bsame,conv,neg,imax,imin,ofNat,slen,place,inR,nz,geZ,rd,wr,push,next,mkOK,nat,zeros,sadd,eqAgg,cut,slc,sslc,strAt,part,app,cpy,putAt,fresh,lowered,bump,wrote,addN,lt,ne,fpAll,fpApp,brk,yn,rng,mget,mput,mnew,bytes,clr,mrng,ment⟩)
include hA
theorem rstation_ok{h:AHeap}(hlow:h.low<=h.next){x:Int}{Q:Value->AHeap->Prop}(hQ:∀r:Bool,(r=true↔0<=x/\x<8)->Q (.bool r) h):call 56 [.int .i64 x] h Q:=by
 refine hA.bodyR Try.func56 r56_ok (hA.alike _ _ _ rfl) hlow (zc ?_);refine br (0<=x) (by rw[e_geq hA]) (fun c=>?_) (fun c=>?_)<;>refine zc ?_
 ·rw[e_lss hA]
  exact hQ _ (by simp;omega)
 ·exact hQ _ (by simp;omega)
theorem ap_in{h0:AHeap}(hlow0:h0.low<=h0.next){a:Option Addr}{n cp:Nat}{c:List Int}(hl:Rows iC 1 h0 a n c)(hn:n<=1000){i:Int}(i0:0<=i)(i1:i<n){Q:Exit->SS->Prop}
  (hbad:∀h' k,0<=k->k<i->gt c i=gt c k->Ext h0 h'->∀e kn K,Q .ret ⟨(2,.bool false) :: e,kn,K,h'⟩)
  (hok:∀h',(∀k,0<=k->k<i->gt c i≠gt c k)->Ext h0 h'->∀kn,Q (.exit 2) ⟨[(0,.slice a n cp),(3,.int .i64 i)],kn,[],h'⟩) :
  ∀(m:Nat) (k:Int) (h:AHeap),(i-k).toNat<=m->0<=k->k<=i->(∀j,0<=j->j<k->gt c i≠gt c j)->Ext h0 h->
   head 31 7 0 ⟨[(0,.slice a n cp),(3,.int .i64 i),(4,.int .i64 k)],0,[],h⟩ Q:=by
 have hlen:=hl.len;refine upTo (fun m ih=>?_);intro k h hm k0 k1 hv he;by_cases ci:k<i
 rotate_left
 ·refine hA.roundR Try.func31 r31_ok (zc ?_)
  refine br (k<i) (by rw[e_lss hA]) (fun c1=>absurd c1 ci) (fun c1=>?_)<;>refine zc ?_;exact hok h (fun j j0 j1=>hv j j0 (by omega)) he _
 obtain⟨m,rfl⟩:∃k,m=k+1:=⟨m-1,by omega⟩
 replace ih:=ih m rfl
 obtain⟨h9,hh9⟩:∃z,z=bump h 9:=⟨_,rfl⟩;have e9:Ext h0 h9:=by rw[hh9];exact he.trans (ext_bump hA _ _)
 obtain⟨bb,o,rfl,_,r1⟩:=(hl.ext e9).at (i:=i) i0 (by omega);obtain⟨_,_,hc',_,r2⟩:=(hl.ext e9).at (i:=k) k0 (by omega);cases hc';obtain⟨u,hu⟩:∃u,u=gt c i:=⟨_,rfl⟩;obtain⟨w,hw⟩:∃w,w=gt c k:=⟨_,rfl⟩;have p1:rd h9 bb (place o i 1) 1 [.int .i64 u]:=by rw[hu];exact rd_ok hA (r1 0 1 (by omega) (by omega))
 have p2:rd h9 bb (place o k 1) 1 [.int .i64 w]:=by rw[hw];exact rd_ok hA (r2 0 1 (by omega) (by omega))
 have e2:arith .add .i64 k 1=k+1:=add64 hA (by omega) (by omega);refine hA.roundR Try.func31 r31_ok (zc ?_);refine br (k<i) (by rw[e_lss hA]) (fun c1=>?_) (fun c1=>absurd ci c1)<;>refine zc ?_;rw[<-hh9];refine zq ?_;refine br (w=u) (by rw[e_eql hA]) (fun c2=>?_) (fun c2=>?_)<;>refine zc ?_
 ·exact hbad h9 k k0 ci (by rw[<-hu,<-hw];exact c2.symm) e9 _ _ _
 ·rw[e2]
  refine ih (k+1) h9 (by omega) (by omega) (by omega) (fun j j0 j1=>?_) e9;by_cases z:j=k
  ·rw[z,<-hu,<-hw];exact fun q=>c2 q.symm
  ·exact hv j j0 (by omega)
theorem ap_out{h0:AHeap}(hlow0:h0.low<=h0.next){a:Option Addr}{n cp:Nat}{c:List Int}(hl:Rows iC 1 h0 a n c)(hn:n<=1000){Q:Exit->SS->Prop}
  (hbad:∀h',¬apart c->Ext h0 h'->∀e kn K,Q .ret ⟨(2,.bool false) :: e,kn,K,h'⟩)
  (hok:∀h',apart c->Ext h0 h'->∀e kn K,Q (.exit 0) ⟨e,kn,K,h'⟩) :
  ∀(m:Nat) (i:Int) (h:AHeap),(n-i).toNat<=m->0<=i->i<=n->(∀p:Int,0<=p->p<i->(0<=gt c p/\gt c p<8)/\∀q:Int,0<=q->q<p->gt c p≠gt c q)->Ext h0 h->
   head 31 2 0 ⟨[(0,.slice a n cp),(3,.int .i64 i)],0,[],h⟩ Q:=by
 have hlen:=hl.len;refine upTo (fun m ih=>?_);intro i h hm i0 i1 hv he;by_cases ci:i<n
 rotate_left
 ·refine hA.roundR Try.func31 r31_ok (zc ?_)
  refine br (i<n) (by rw[e_lss hA,e_ofNat hA]) (fun c1=>absurd c1 ci) (fun c1=>?_)<;>refine zc ?_;exact hok h (apart_iff.2 (fun p p0 p1=>hv p p0 (by omega))) he _ _ _
 obtain⟨m,rfl⟩:∃k,m=k+1:=⟨m-1,by omega⟩
 replace ih:=ih m rfl
 have e2:arith .add .i64 i 1=i+1:=add64 hA (by omega) (by omega);obtain⟨bb,o,rfl,_,r1⟩:=(hl.ext he).at (i:=i) i0 (by omega);obtain⟨u,hu⟩:∃u,u=gt c i:=⟨_,rfl⟩;have p1:rd h bb (place o i 1) 1 [.int .i64 u]:=by rw[hu];exact rd_ok hA (r1 0 1 (by omega) (by omega))
 refine hA.roundR Try.func31 r31_ok (zc ?_);refine br (i<n) (by rw[e_lss hA,e_ofNat hA]) (fun c1=>?_) (fun c1=>absurd ci c1)<;>refine zc ?_;refine zq ?_;refine rstation_ok hA (he.lowOK hlow0) (fun r hr=>⟨_,rfl,?_⟩);refine zc ?_;refine br (r=false) (by rw[e_bnot hA];cases r<;>rfl) (fun c2=>?_) (fun c2=>?_)<;>refine zc ?_
 ·refine hbad h (fun q=>?_) he _ _ _
  have:=hr.2 (by rw[hu];exact(apart_iff.1 q i i0 (by omega)).1);rw[c2]at this;cases this
 have hu8:=hr.1 (by cases r with|true=>rfl|false=>exact absurd rfl c2);refine ap_in hA hlow0 hl hn i0 ci (fun h' k k0 k1 hk x e kn K=>?_) (fun h' hne x kn=>?_) i.toNat 0 h (by omega) (by omega) (by omega) (fun j j0 j1=>by omega) he
 ·refine zc ?_
  exact hbad h' (fun q=>(apart_iff.1 q i i0 (by omega)).2 k k0 k1 hk) x _ _ _
 ·refine zc ?_
  rw[e2];refine ih (i+1) h' (by omega) (by omega) (by omega) (fun p p0 p1=>?_) x;by_cases z:p=i
  ·subst z;exact⟨by rw[<-hu];exact hu8,fun q q0 q1=>hne q q0 q1⟩
  ·exact hv p p0 (by omega)
theorem rapart_ok{h:AHeap}(hlow:h.low<=h.next){a:Option Addr}{n cp:Nat}{c:List Int}(hl:Rows iC 1 h a n c)(hn:n<=1000){Q:Value->AHeap->Prop}
  (hQ:∀(r:Bool) h',(r=true↔apart c)->Ext h h'->Q (.bool r) h'):call 31 [.slice a n cp] h Q:=by
 refine hA.bodyR Try.func31 r31_ok (hA.alike _ _ _ rfl) hlow (zc ?_);refine ap_out hA hlow hl hn (fun h' hb x e kn K=>?_) (fun h' hb x e kn K=>?_) n 0 h (by omega) (by omega) (by omega) (fun p p0 p1=>by omega) (.refl h)
 ·refine zc ?_
  exact hQ false h' ⟨(fun q=>by cases q),fun q=>absurd q hb⟩ x
 ·refine zc ?_
  exact hQ true h' ⟨fun _=>hb,fun _=>rfl⟩ x
end Go.Proofs.Ytmkiclinllifiaa
namespace Go.Proofs.Ytmkiclinllifiaa
open Go.Sim
set_option maxRecDepth 100000
def nxC(c:List Int)(k:Int):Int:=gt c ((k+1) % c.length)
def stp(c:List Int)(i j k:Int):Int:=(if gt c k=i/\nxC c k=j then 1 else 0)-(if gt c k=j/\nxC c k=i then 1 else 0)
def stN(c:List Int)(i j:Int):Nat->Int
 |0=>0
 |k+1=>stN c i j k+stp c i j k
def steps(c:List Int)(i j:Int):Int:=stN c i j c.length
variable{F:Prims}{call head arith cmp scmp bnot bsame conv neg imax imin ofNat slen place inR nz geZ rd wr push next mkOK nat zeros sadd eqAgg cut slc sslc strAt part app cpy putAt fresh lowered bump wrote addN lt ne fpAll fpApp brk yn rng mget mput mnew bytes clr mrng ment:_}(hA:AP F ⟨call,head,arith,cmp,scmp,bnot,bsame,conv,neg,imax,imin,ofNat,slen,place,inR,nz,geZ,rd,wr,push,next,mkOK,nat,zeros,sadd,eqAgg,cut,slc,sslc,strAt,part,app,cpy,putAt,fresh,lowered,bump,wrote,addN,lt,ne,fpAll,fpApp,brk,yn,rng,mget,mput,mnew,bytes,clr,mrng,ment⟩)
include hA
