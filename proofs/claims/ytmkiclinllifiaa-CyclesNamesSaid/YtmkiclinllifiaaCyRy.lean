import Derived.Test.YtmkiclinllifiaaCyE
import Derived.Test.YtmkiclinllifiaaSymApp2
set_option linter.unusedSimpArgs false
set_option linter.unusedVariables false
namespace Go.Proofs.Ytmkiclinllifiaa
open Go.Sim
set_option maxRecDepth 100000
def apart(c:List Int):Prop:=(∀s∈c,0<=s/\s<8)/\c.Nodup
structure RB8(B:List Bool)(c:List Int):Prop where
 len:B.length=8
 val:∀x:Int,0<=x->x<8->(B.getD x.toNat false=true↔x∈c)
theorem RB8.set{B:List Bool}{c:List Int}(h:RB8 B c){s:Int}(s0:0<=s)(s1:s<8):RB8 (B.set s.toNat true) (c++[s]):=by
 refine⟨by rw[List.length_set];exact h.len,fun x x0 x1=>?_⟩;rw[List.getD_eq_getElem?_getD,List.getElem?_set,List.mem_append,List.mem_singleton];by_cases e:x=s
 ·rw[e,if_pos rfl,if_pos (by rw[h.len];omega)]
  exact⟨fun _=>.inr rfl,fun _=>rfl⟩
 ·rw[if_neg (by omega),<-List.getD_eq_getElem?_getD,h.val x x0 x1]
  exact⟨.inl,fun q=>q.elim id (fun q=>absurd q e)⟩
variable{F:Prims}{call head arith cmp scmp bnot bsame conv neg imax imin ofNat slen place inR nz geZ rd wr push next mkOK nat zeros sadd eqAgg cut slc sslc strAt part app cpy putAt fresh lowered bump wrote addN lt ne fpAll fpApp brk yn rng mget mput mnew bytes clr mrng ment:_}(hA:AP F ⟨call,head,arith,cmp,scmp,bnot,bsame,conv,neg,imax,imin,ofNat,slen,place,inR,nz,geZ,rd,wr,push,next,mkOK,nat,zeros,sadd,eqAgg,cut,slc,sslc,strAt,part,app,cpy,putAt,fresh,lowered,bump,wrote,addN,lt,ne,fpAll,fpApp,brk,yn,rng,mget,mput,mnew,bytes,clr,mrng,ment⟩)
include hA
theorem df_loop{h0:AHeap}(hlow0:h0.low<=h0.next){a:Option Addr}{n cp:Nat}{N:Int}(hN:N=n){c:List Int}(hl:Rows iC 1 h0 a n c)(hn:n<=1000){b3 es:Nat}(hb3:h0.next<=b3){Q:Exit->SS->Prop}
  (hbad:∀h',¬apart c->Ext h0 h'->∀e kn K,Q .ret ⟨(2,.bool false) :: e,kn,K,h'⟩)
  (hok:∀h',apart c->Ext h0 h'->∀e kn K,Q (.exit 0) ⟨e,kn,K,h'⟩) :
  ∀(m:Nat) (i:Int) (h:AHeap) (B:List Bool),(n-i).toNat<=m->0<=i->i<=n->Own h b3 es (B.map Value.bool)->b3<h.next->RB8 B (c.take i.toNat)->apart (c.take i.toNat)->Ext h0 h->
   head 57 3 0 ⟨[(3,.pointer (some ⟨b3,0,none⟩)),(6,.slice a n cp),(7,.int .i64 N),(8,.int .i64 i)],0,[],h⟩ Q:=by
 have hlen:=hl.len;refine upTo (fun m ih=>?_);intro i h B hm i0 i1 ho hb hr hd he;by_cases ci:i<n
 rotate_left
 ·refine hA.roundR Try.func57 r57_ok (zc ?_)
  refine br (i<N) (by rw[e_lss hA]) (fun c1=>by omega) (fun c1=>?_)<;>refine zc ?_;rw[List.take_of_length_le (by omega)]at hd;exact hok h hd he _ _ _
 obtain⟨m,rfl⟩:∃k,m=k+1:=⟨m-1,by omega⟩
 replace ih:=ih m rfl
 obtain⟨bb,o,rfl,_,r1⟩:=(hl.ext he).at (i:=i) i0 (by omega);obtain⟨v,hv⟩:∃v,v=gt c i:=⟨_,rfl⟩;have q1:rd h bb (place o i 1) 1 [.int .i64 v]:=by rw[hv];exact rd_ok hA (r1 0 1 (by omega) (by omega))
 have e2:arith .add .i64 i 1=i+1:=add64 hA (by omega) (by omega);have htk:=gt_take c i0 (by omega);rw[<-hv]at htk;have hmem:v∈c:=by rw[hv];exact gt_mem c i0 (by omega)
 refine hA.roundR Try.func57 r57_ok (zc ?_);refine br (i<N) (by rw[e_lss hA]) (fun c1=>?_) (fun c1=>by omega)<;>refine zc ?_;refine zq ?_;refine station_ok hA (he.lowOK hlow0) (fun r hr'=>⟨_,rfl,?_⟩);refine zc ?_;refine br (r=false) (by rw[e_bnot hA];cases r<;>rfl) (fun c2=>?_) (fun c2=>?_)<;>refine zc ?_
 ·exact hbad h (fun q=>by have:=hr'.2 (q.1 v hmem);rw[c2]at this;cases this) he _ _ _
 obtain⟨v0,v8⟩:=hr'.1 (by cases r with|true=>rfl|false=>exact absurd rfl c2);obtain⟨vi,hvi⟩:∃z,z=B.getD v.toNat false:=⟨_,rfl⟩;have lb:=hr.len;have p3:rd h b3 (place 0 v 1) 1 [.bool vi]:=by rw[hvi];exact rd_ok hA (by rw[Nat.zero_add,Nat.mul_one];exact getB ho (by omega))
 have hval:=hr.val v v0 v8;rw[<-hvi]at hval;refine zq ?_;refine br (vi=true) (by simp) (fun c3=>?_) (fun c3=>?_)<;>refine zc ?_
 ·refine hbad h (fun q=>?_) he _ _ _
  have nd:(c.take (i+1).toNat).Nodup:=q.2.sublist (List.take_sublist _ _);rw[htk,List.nodup_append]at nd;exact nd.2.2 _ (hval.1 c3) _ (List.mem_singleton.2 rfl) rfl
 obtain⟨h11,w11,o11,k11⟩:=setB ho (i:=v.toNat) (by omega) true;refine zq ?_;refine⟨h11,wr_ok hA (by rw[Nat.zero_add,Nat.mul_one];exact w11),?_⟩;refine zc ?_;rw[e2];have n11:=k11.next;refine ih (i+1) h11 (B.set v.toNat true) (by omega) (by omega) (by omega) o11 (by omega) (by rw[htk];exact hr.set v0 v8) ?_ (k11.ext he hb3);rw[htk];refine⟨fun s hs=>?_,?_⟩
 ·rcases List.mem_append.1 hs with z|z
  ·exact hd.1 s z
  ·rw[List.mem_singleton.1 z];exact⟨v0,v8⟩
 ·rw[List.nodup_append]
  refine⟨hd.2,List.nodup_cons.2 ⟨by simp,List.nodup_nil⟩,fun u hu w hw e=>?_⟩;rw[List.mem_singleton.1 hw]at e;exact c3 (hval.2 (by rw[<-e];exact hu))
theorem different_ok{h:AHeap}(hlow:h.low<=h.next){a:Option Addr}{n cp:Nat}{c:List Int}(hl:Rows iC 1 h a n c)(hn:n<=1000){Q:Value->AHeap->Prop}
  (hQ:∀(r:Bool) h',(r=true↔apart c)->Ext h h'->Q (.bool r) h'):call 57 [.slice a n cp] h Q:=by
 refine hA.bodyR Try.func57 r57_ok (hA.alike _ _ _ rfl) hlow (zc ?_);simp only[e_next hA,e_push hA,e_ofNat hA];have ex:=Ext.push h 8 ((List.replicate 8 false).map Value.bool);have ox:=Own.push h 8 ((List.replicate 8 false).map Value.bool);refine df_loop hA hlow rfl hl hn (b3:=h.next) (es:=8) (Nat.le_refl _) (fun h2 hd x2 e kn K=>?_) (fun h2 hd x2 e kn K=>?_) n 0 _ (List.replicate 8 false) (by omega) (by omega) (by omega) ox (by show h.next<h.next+1;omega) ⟨by simp,fun x x0 x1=>?_⟩ ⟨by simp,by simp⟩ ex
 ·refine zc ?_
  exact hQ false h2 ⟨(fun q=>by cases q),fun q=>absurd q hd⟩ x2
 ·refine zc ?_
  exact hQ true h2 ⟨fun _=>hd,fun _=>rfl⟩ x2
 ·rw[List.getD_eq_getElem?_getD,List.getElem?_replicate]
  split<;>simp
end Go.Proofs.Ytmkiclinllifiaa
namespace Go.Proofs.Ytmkiclinllifiaa
open Go.Sim
set_option maxRecDepth 100000
def circle(c:List Int):Prop:=3<=c.length/\c.length<=8/\apart c
variable{F:Prims}{call head arith cmp scmp bnot bsame conv neg imax imin ofNat slen place inR nz geZ rd wr push next mkOK nat zeros sadd eqAgg cut slc sslc strAt part app cpy putAt fresh lowered bump wrote addN lt ne fpAll fpApp brk yn rng mget mput mnew bytes clr mrng ment:_}(hA:AP F ⟨call,head,arith,cmp,scmp,bnot,bsame,conv,neg,imax,imin,ofNat,slen,place,inR,nz,geZ,rd,wr,push,next,mkOK,nat,zeros,sadd,eqAgg,cut,slc,sslc,strAt,part,app,cpy,putAt,fresh,lowered,bump,wrote,addN,lt,ne,fpAll,fpApp,brk,yn,rng,mget,mput,mnew,bytes,clr,mrng,ment⟩)
include hA
end Go.Proofs.Ytmkiclinllifiaa
namespace Go.Proofs.Ytmkiclinllifiaa
open Go.Sim
set_option maxRecDepth 100000
def nxC(c:List Int)(k:Int):Int:=gt c ((k+1) % c.length)
def stp(c:List Int)(i j k:Int):Int:=(if gt c k=i/\nxC c k=j then 1 else 0)-(if gt c k=j/\nxC c k=i then 1 else 0)
def stN(c:List Int)(i j:Int):Nat->Int
 |0=>0
 |k+1=>stN c i j k+stp c i j k
def steps(c:List Int)(i j:Int):Int:=stN c i j c.length
variable{F:Prims}{call head arith cmp scmp bnot bsame conv neg imax imin ofNat slen place inR nz geZ rd wr push next mkOK nat zeros sadd eqAgg cut slc sslc strAt part app cpy putAt fresh lowered bump wrote addN lt ne fpAll fpApp brk yn rng mget mput mnew bytes clr mrng ment:_}(hA:AP F ⟨call,head,arith,cmp,scmp,bnot,bsame,conv,neg,imax,imin,ofNat,slen,place,inR,nz,geZ,rd,wr,push,next,mkOK,nat,zeros,sadd,eqAgg,cut,slc,sslc,strAt,part,app,cpy,putAt,fresh,lowered,bump,wrote,addN,lt,ne,fpAll,fpApp,brk,yn,rng,mget,mput,mnew,bytes,clr,mrng,ment⟩)
include hA
end Go.Proofs.Ytmkiclinllifiaa
namespace Go.Proofs.Ytmkiclinllifiaa
open Go.Sim
set_option maxRecDepth 100000
variable{F:Prims}{call head arith cmp scmp bnot bsame conv neg imax imin ofNat slen place inR nz geZ rd wr push next mkOK nat zeros sadd eqAgg cut slc sslc strAt part app cpy putAt fresh lowered bump wrote addN lt ne fpAll fpApp brk yn rng mget mput mnew bytes clr mrng ment:_}(hA:AP F ⟨call,head,arith,cmp,scmp,bnot,bsame,conv,neg,imax,imin,ofNat,slen,place,inR,nz,geZ,rd,wr,push,next,mkOK,nat,zeros,sadd,eqAgg,cut,slc,sslc,strAt,part,app,cpy,putAt,fresh,lowered,bump,wrote,addN,lt,ne,fpAll,fpApp,brk,yn,rng,mget,mput,mnew,bytes,clr,mrng,ment⟩)
include hA
inductive FndO(l:List Vk)(x y:Int):Int->Int->Int->Int->Prop
 |no (h:∀v∈l,¬(v.i=x/\v.j=y)/\¬(v.i=y/\v.j=x)):FndO l x y 0 0 0 6
 |to (v:Vk) (hv:v∈l) (h:v.i=x/\v.j=y):FndO l x y v.re v.im v.den 0
 |back (v:Vk) (hv:v∈l) (h:v.i=y/\v.j=x):FndO l x y v.re (-v.im) v.den 0
theorem fnd_loop{h0:AHeap}(hlow0:h0.low<=h0.next){a:Option Addr}{n c:Nat}{N:Int}(hN:N=n){l:List Vk}(hl:Vs h0 a n l)(hn:n<=1000)(hv:∀v∈l,okV v){x y:Int}{Q:Exit->SS->Prop}
  (hn0:∀h',(∀v∈l,¬(v.i=x/\v.j=y)/\¬(v.i=y/\v.j=x))->Ext h0 h'->Q (.exit 0) ⟨[(6,.pointer (some ⟨0,0,some 0⟩))],1,[(0,[.int .i64 0,.int .i64 0,.int .i64 0])],h'⟩)
  (hd:∀h' (v:Vk),v∈l->v.i=x/\v.j=y->Ext h0 h'->∀v27 v26 v9 K',Q .ret ⟨[(7,.int .i64 0),(27,v27),(26,v26),(6,.pointer (some ⟨0,0,some 0⟩)),(9,v9)],2,(0,[.int .i64 v.re,.int .i64 v.im,.int .i64 v.den]) :: K',h'⟩)
  (hr:∀h' (v:Vk) (s:Int),v∈l->v.i=y/\v.j=x->s=-v.im->Ext h0 h'->∀v42 v41 v40 v39 v38 v9 K',Q .ret ⟨[(7,.int .i64 0),(42,v42),(41,v41),(40,v40),(39,v39),(38,v38),(6,.pointer (some ⟨0,0,some 0⟩)),(9,v9)],2,(0,[.int .i64 v.re,.int .i64 s,.int .i64 v.den]) :: K',h'⟩) :
  ∀(m:Nat) (i:Int) (h:AHeap),(n-i).toNat<=m->0<=i->i<=n->(∀v∈l.take i.toNat,¬(v.i=x/\v.j=y)/\¬(v.i=y/\v.j=x))->Ext h0 h->
   head 75 2 1 ⟨[(1,.int .i64 x),(2,.int .i64 y),(6,.pointer (some ⟨0,0,some 0⟩)),(10,.slice a n c),(11,.int .i64 N),(12,.int .i64 i)],1,[(0,[.int .i64 0,.int .i64 0,.int .i64 0])],h⟩ Q:=by
 have hlen:=hl.len;refine upTo (fun m ih=>?_);intro i h hm i0 i1 hno he;by_cases ci:i<n
 rotate_left
 ·refine hA.roundR Try.func75 r75_ok (zc ?_)
  refine br (i<N) (by rw[e_lss hA]) (fun c1=>by omega) (fun c1=>?_)<;>refine zc ?_;rw[List.take_of_length_le (by omega)]at hno;exact hn0 h hno he
 obtain⟨m,rfl⟩:∃k,m=k+1:=⟨m-1,by omega⟩
 replace ih:=ih m rfl
 obtain⟨bb,o,u,w,re,im,d,nn,rfl,hbb,hg,r1,_⟩:=vs_at (hl.ext he) (i:=i) i0 ci;have q1:=rd_ok hA r1;have hmem:(⟨u,w,re,im,d,nn⟩:Vk)∈l:=by rw[<-hg];exact gt_mem l i0 (by omega)
 have e2:arith .add .i64 i 1=i+1:=add64 hA (by omega) (by omega);have nxt:¬(u=x/\w=y)->¬(u=y/\w=x)->∀v∈l.take (i+1).toNat,¬(v.i=x/\v.j=y)/\¬(v.i=y/\v.j=x):=fun g1 g2 v hv'=>by
  rw[gt_take l i0 (by omega),hg]at hv';rcases List.mem_append.1 hv' with z|z
  ·exact hno v z
  ·rw[List.mem_singleton.1 z];exact⟨g1,g2⟩
 refine hA.roundR Try.func75 r75_ok (zc ?_);refine br (i<N) (by rw[e_lss hA]) (fun c1=>?_) (fun c1=>by omega)<;>refine zc ?_;refine zq ?_;refine⟨_,_,_,_,_,_,q1,?_⟩;refine zq ?_;refine br (u=x) (by rw[e_eql hA]) (fun c2=>?_) (fun c2=>?_)<;>refine zc ?_
 ·refine br (w=y) (by rw[e_eql hA]) (fun c3=>?_) (fun c3=>?_)<;>refine zc ?_
  ·exact hd h ⟨u,w,re,im,d,nn⟩ hmem ⟨c2,c3⟩ he _ _ _ _
  ·refine zc ?_
   refine br (u=y) (by rw[e_eql hA]) (fun c4=>?_) (fun c4=>?_)<;>refine zc ?_
   ·refine br (w=x) (by rw[e_eql hA]) (fun c5=>?_) (fun c5=>?_)<;>refine zc ?_
    ·refine cconj_ok hA (he.lowOK hlow0) (fun r s t e h' hc x'=>?_)
     have okd:=(hv _ hmem).2.2.2.2;obtain⟨rfl,hs,rfl,rfl⟩:r=re/\s=-im/\t=d/\e=0:=by
      rcases hc with ⟨z,_⟩|⟨_,z⟩
      ·exact absurd okd z
      ·exact z
     refine⟨_,_,_,_,rfl,?_⟩;refine zc ?_;refine hr h' ⟨u,w,r,im,t,nn⟩ s hmem ⟨c4,c5⟩ hs (he.trans x') _ _ _ _ _ _ _
    ·rw[e2]
     exact ih (i+1) h (by omega) (by omega) (by omega) (nxt (fun q=>c3 q.2) (fun q=>c5 q.2)) he
   ·rw[e2]
    exact ih (i+1) h (by omega) (by omega) (by omega) (nxt (fun q=>c3 q.2) (fun q=>c4 q.1)) he
 ·refine zc ?_
  refine br (u=y) (by rw[e_eql hA]) (fun c4=>?_) (fun c4=>?_)<;>refine zc ?_
  ·refine br (w=x) (by rw[e_eql hA]) (fun c5=>?_) (fun c5=>?_)<;>refine zc ?_
   ·refine cconj_ok hA (he.lowOK hlow0) (fun r s t e h' hc x'=>?_)
    have okd:=(hv _ hmem).2.2.2.2;obtain⟨rfl,hs,rfl,rfl⟩:r=re/\s=-im/\t=d/\e=0:=by
     rcases hc with ⟨z,_⟩|⟨_,z⟩
     ·exact absurd okd z
     ·exact z
    refine⟨_,_,_,_,rfl,?_⟩;refine zc ?_;refine hr h' ⟨u,w,r,im,t,nn⟩ s hmem ⟨c4,c5⟩ hs (he.trans x') _ _ _ _ _ _ _
   ·rw[e2]
    exact ih (i+1) h (by omega) (by omega) (by omega) (nxt (fun q=>c2 q.1) (fun q=>c5 q.2)) he
  ·rw[e2]
   exact ih (i+1) h (by omega) (by omega) (by omega) (nxt (fun q=>c2 q.1) (fun q=>c4 q.1)) he
theorem cfind_ok{h:AHeap}(hlow:h.low<=h.next){a:Option Addr}{n c:Nat}{l:List Vk}(hl:Vs h a n l)(hn:n<=1000)(hv:∀v∈l,okV v){x y:Int}{Q:Value->AHeap->Prop}
  (hQ:∀h' u v w e,FndO l x y u v w e->Ext h h'->Q (.tuple #[.agg #[.int .i64 u,.int .i64 v,.int .i64 w],.int .i64 e]) h'):call 75 [.slice a n c,.int .i64 x,.int .i64 y] h Q:=by
 refine hA.bodyR Try.func75 r75_ok (hA.alike _ _ _ rfl) hlow (zc ?_);refine fnd_loop hA hlow (e_ofNat hA n) hl hn hv (fun h' hno x'=>?_) (fun h' v hm e x' v27 v26 v9 K'=>?_) (fun h' v s hm e hs x' v42 v41 v40 v39 v38 v9 K'=>?_) n 0 h (by omega) (by omega) (by omega) (fun v hv'=>by simp at hv') (.refl h)
 ·refine zc ?_
  exact hQ h' 0 0 0 6 (.no hno) x'
 ·refine zc ?_
  exact hQ h' _ _ _ 0 (.to v hm e) x'
 ·refine zc ?_
  subst hs;exact hQ h' _ _ _ 0 (.back v hm e) x'
end Go.Proofs.Ytmkiclinllifiaa
namespace Go.Proofs.Ytmkiclinllifiaa
open Go.Sim
set_option maxRecDepth 100000
variable{F:Prims}{call head arith cmp scmp bnot bsame conv neg imax imin ofNat slen place inR nz geZ rd wr push next mkOK nat zeros sadd eqAgg cut slc sslc strAt part app cpy putAt fresh lowered bump wrote addN lt ne fpAll fpApp brk yn rng mget mput mnew bytes clr mrng ment:_}(hA:AP F ⟨call,head,arith,cmp,scmp,bnot,bsame,conv,neg,imax,imin,ofNat,slen,place,inR,nz,geZ,rd,wr,push,next,mkOK,nat,zeros,sadd,eqAgg,cut,slc,sslc,strAt,part,app,cpy,putAt,fresh,lowered,bump,wrote,addN,lt,ne,fpAll,fpApp,brk,yn,rng,mget,mput,mnew,bytes,clr,mrng,ment⟩)
include hA
theorem ciszero_ok{h:AHeap}(hlow:h.low<=h.next){a b d:Int}{Q:Value->AHeap->Prop}(hQ:∀r:Bool,(r=true↔a=0/\b=0)->Q (.bool r) h):call 69 [.agg #[.int .i64 a,.int .i64 b,.int .i64 d]] h Q:=by
 refine hA.bodyR Try.func69 r69_ok (hA.alike _ _ _ rfl) hlow (zc ?_);refine br (a=0) (by rw[e_eql hA]) (fun c=>?_) (fun c=>?_)<;>refine zc ?_
 ·rw[e_eql hA]
  exact hQ _ (by simp[c])
 ·exact hQ _ (by simp[c])
theorem cray_ok{h:AHeap}(hlow:h.low<=h.next){a b d:Int}(hk:okC a b d){Q:Value->AHeap->Prop}
  (h0:a=0/\b=0->∀h',Ext h h'->Q (.tuple #[.agg #[.int .i64 0,.int .i64 0,.int .i64 0],.int .i64 18]) h')
  (h1:¬(a=0/\b=0)->∀h',Ext h h'->Q (.tuple #[.agg #[.int .i64 (a.tdiv (Int.gcd a b)),.int .i64 (b.tdiv (Int.gcd a b)),.int .i64 1],.int .i64 0]) h'):call 50 [.agg #[.int .i64 a,.int .i64 b,.int .i64 d]] h Q:=by
 have hb:=(okC_iff a b d).1 hk;refine hA.bodyR Try.func50 r50_ok (hA.alike _ _ _ rfl) hlow (zc ?_);refine ccheck_ok hA hlow (fun e h' ke x'=>⟨_,rfl,?_⟩);refine zc ?_;refine br (e≠0) (by rw[e_neq hA]) (fun c1=>?_) (fun c1=>?_)<;>refine zc ?_
 ·rcases ke with ⟨z,_⟩|⟨_,z⟩
  ·exact absurd z c1
  ·exact absurd hk z
 refine ciszero_ok hA (x'.lowOK hlow) (fun r hr=>⟨_,rfl,?_⟩);refine zc ?_;refine br (r=true) (by simp) (fun c2=>?_) (fun c2=>?_)<;>refine zc ?_
 ·exact h0 (hr.1 c2) h' x'
 have hz:¬(a=0/\b=0):=fun q=>c2 (hr.2 q)
 refine cgcd_ok hA (x'.lowOK hlow) (by unfold i63;omega) (by unfold i63;omega) (fun g hg h2 x2=>⟨_,rfl,?_⟩);refine zc ?_;have g0:g≠0:=by
  rw[hg];intro q;have:=Int.gcd_eq_zero_iff.1 (show Int.gcd a b=0 by omega);exact hz this
 obtain⟨h9,hh9⟩:∃z,z=bump h2 11:=⟨_,rfl⟩;have e9:Ext h2 h9:=by rw[hh9];exact ext_bump hA _ _
 rw[<-hh9];refine⟨nz_ok hA g0,?_⟩;refine zc ?_;refine⟨nz_ok hA g0,?_⟩;refine zc ?_;rw[quoT hA (by omega) (by omega),quoT hA (by omega) (by omega),hg];exact h1 hz h9 (x'.trans (x2.trans e9))
