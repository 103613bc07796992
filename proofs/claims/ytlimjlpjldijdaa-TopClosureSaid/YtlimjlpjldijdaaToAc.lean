import Derived.Test.YtlimjlpjldijdaaToGa
set_option linter.unusedSimpArgs false
set_option linter.unusedVariables false
namespace Go.Proofs.Ytlimjlpjldijdaa
open Go.Sim
set_option maxRecDepth 100000
theorem zcks:∀n:Nat,copies [Value.int .i64 0,.int .i64 0,.int .i64 0] n=(List.replicate n zeC).flatMap Ck.cells
 |0=>rfl
 |n+1=>by
  rw[List.replicate_succ,List.flatMap_cons,<-zcks n];rfl
def AllK(R:Int->Ck->Prop)(L:List Ck)(k:Nat):Prop:=∀i:Int,0<=i->i<k->R i (gt L i)
def Uses(fa ga:FuncId)(cl:List Value):Prop:=(fa=20/\ga=21/\∃p q:Nat,cl=[.pointer (some ⟨p,0,none⟩),.pointer (some ⟨q,0,none⟩)])\/(fa=22/\ga=23/\∃p q r:Nat,cl=[.pointer (some ⟨p,0,none⟩),.pointer (some ⟨q,0,none⟩),.pointer (some ⟨r,0,none⟩)])
variable{F:Prims}{call head arith cmp scmp bnot bsame conv neg imax imin ofNat slen place inR nz geZ rd wr push next mkOK nat zeros sadd eqAgg cut slc sslc strAt part app cpy putAt fresh lowered bump wrote addN lt ne fpAll fpApp brk yn rng mget mput mnew bytes clr mrng ment:_}(hA:AP F ⟨call,head,arith,cmp,scmp,bnot,bsame,conv,neg,imax,imin,ofNat,slen,place,inR,nz,geZ,rd,wr,push,next,mkOK,nat,zeros,sadd,eqAgg,cut,slc,sslc,strAt,part,app,cpy,putAt,fresh,lowered,bump,wrote,addN,lt,ne,fpAll,fpApp,brk,yn,rng,mget,mput,mnew,bytes,clr,mrng,ment⟩)
include hA
theorem pr_loop{h0:AHeap}(hlow0:h0.low<=h0.next){n:Nat}{N:Int}(hN:N=n)(hn:n<=1000){fa ga:FuncId}{cl:List Value}(hu:Uses fa ga cl){A B:Int->Ck}{M:Ck->Ck->Ck->Int->Prop}
  (hF:∀(k:Int) (h:AHeap) (Q:Value->AHeap->Prop),0<=k->k<n->Ext h0 h->(∀h',Ext h h'->Q (.tuple #[ckV (A k),ckV (B k)]) h')->call fa (.int .i64 k :: cl) h Q)
  (hM:∀(k:Int) (h:AHeap) (Q:Value->AHeap->Prop),0<=k->k<n->Ext h0 h->(∀r e h',M (A k) (B k) r e->Ext h h'->Q (.tuple #[ckV r,.int .i64 e]) h')->call ga [ckV (A k),ckV (B k)] h Q)
  {b:Nat} (hb0:h0.next<=b) {Q:Exit->SS->Prop}
  (hno:∀h' e,e≠0->(∃k r,0<=k/\k<(n:Int)/\M (A k) (B k) r e)->Ext h0 h'->∀e' kn K,Q .ret ⟨(7,.int .i64 e) :: (6,.slice none 0 0) :: e',kn,K,h'⟩)
  (hok:∀h' L,Own h' b 3 (L.flatMap Ck.cells)->L.length=n->AllK (fun k r=>M (A k) (B k) r 0) L n->b<h'.next->Ext h0 h'->Q (.exit 0) ⟨[(8,.slice (some ⟨b,0,none⟩) n n)],0,[],h'⟩) :
  ∀(m:Nat) (i:Int) (k:Nat) (h:AHeap) (L:List Ck),(n-i).toNat<=m->0<=i->i<=n->(k:Int)=i->Own h b 3 (L.flatMap Ck.cells)->L.length=n->AllK (fun k r=>M (A k) (B k) r 0) L k->b<h.next->Ext h0 h->
   head 19 3 0 ⟨[(1,.func (.func fa) #[] cl.toArray),(2,.func (.func ga) #[] #[]),(8,.slice (some ⟨b,0,none⟩) k n),(16,.int .i64 N),(17,.int .i64 i)],0,[],h⟩ Q:=by
 refine upTo (fun m ih=>?_);intro i k h L hm i0 i1 hk ho hL hp hb he;by_cases ci:i<n
 rotate_left
 ·obtain rfl:k=n:=by omega
  refine hA.roundR Try.func19 r19_ok (zc ?_);refine br (i<N) (by rw[e_lss hA]) (fun c1=>by omega) (fun c1=>?_)<;>refine zc ?_;exact hok h L ho hL hp hb he
 obtain⟨m,rfl⟩:∃k,m=k+1:=⟨m-1,by omega⟩
 replace ih:=ih m rfl
 have e2:arith .add .i64 i 1=i+1:=add64 hA (by omega) (by omega);rcases hu with ⟨rfl,rfl,p,q,rfl⟩|⟨rfl,rfl,p,q,r,rfl⟩
 all_goals
  refine hA.roundR Try.func19 r19_ok (zc ?_);refine br (i<N) (by rw[e_lss hA]) (fun c1=>?_) (fun c1=>by omega)<;>refine zc ?_;refine hF i h _ i0 ci he (fun h1 x1=>⟨_,_,_,_,_,_,rfl,?_⟩);have y1:=he.trans x1;refine zc ?_;refine hM i h1 _ i0 ci y1 (fun v e h2 hv x2=>⟨_,_,_,_,rfl,?_⟩);have y2:=y1.trans x2;have xx:=x1.trans x2;have hb2:b<h2.next:=by have:=xx.next;omega
  refine zc ?_;refine br (e≠0) (by rw[e_neq hA]) (fun c2=>?_) (fun c2=>?_)<;>refine zc ?_
  ·exact hno h2 e c2 ⟨i,v,i0,ci,hv⟩ y2 _ _ _
  obtain rfl:e=0:=by omega
  refine appIn_ok hA TC2 ck_len (by omega) ck_ok (v:=v) (ho.ext xx hb) hL hb2 (by omega) (by omega) (fun h3 o3 k3=>?_);refine zc ?_;rw[e2];have n3:=k3.next;have nP:(h2.push 3 v.cells).next=h2.next+1:=rfl;refine ih (i+1) (k+1) h3 (L.set k v) (by omega) (by omega) (by omega) (by omega) o3 (by rw[List.length_set];exact hL) (fun j j0 j1=>?_) (by omega) (k3.ext (y2.trans (.push _ _ _)) hb0);have gs:=gt_set L (i:=(k:Int)) (j:=j) (by omega) j0 (by omega) v;rw[Int.toNat_natCast]at gs;rw[gs];by_cases cj:j=k
  ·rw[if_pos cj,cj,hk];exact hv
  ·rw[if_neg cj];exact hp j j0 (by omega)
theorem products_ok{h:AHeap}(hlow:h.low<=h.next){n:Nat}{N:Int}(hN:N=n)(hn:n<=1000){fa ga:FuncId}{cl:List Value}(hu:Uses fa ga cl){A B:Int->Ck}{M:Ck->Ck->Ck->Int->Prop}
  (hF:∀(k:Int) (h':AHeap) (Q:Value->AHeap->Prop),0<=k->k<n->Ext h h'->(∀h2,Ext h' h2->Q (.tuple #[ckV (A k),ckV (B k)]) h2)->call fa (.int .i64 k :: cl) h' Q)
  (hM:∀(k:Int) (h':AHeap) (Q:Value->AHeap->Prop),0<=k->k<n->Ext h h'->(∀r e h2,M (A k) (B k) r e->Ext h' h2->Q (.tuple #[ckV r,.int .i64 e]) h2)->call ga [ckV (A k),ckV (B k)] h' Q)
  {Q:Value->AHeap->Prop}
  (hno:∀h' e,e≠0->(∃k r,0<=k/\k<(n:Int)/\M (A k) (B k) r e)->Ext h h'->Q (.tuple #[.slice none 0 0,.int .i64 e]) h')
  (hok:∀h' b L,Cs h' (some ⟨b,0,none⟩) n L->AllK (fun k r=>M (A k) (B k) r 0) L n->Ext h h'->Q (.tuple #[.slice (some ⟨b,0,none⟩) n n,.int .i64 0]) h') :
  call 19 [.int .i64 N,.func (.func fa) #[] cl.toArray,.func (.func ga) #[] #[]] h Q:=by
 have hu0:=hu;rcases hu with ⟨rfl,rfl,p,q,rfl⟩|⟨rfl,rfl,p,q,r,rfl⟩
 all_goals
  refine hA.bodyR Try.func19 r19_ok (hA.alike _ _ _ rfl) hlow (zc ?_);refine⟨mk_ok hA (by omega) (by omega) (by omega),?_⟩;refine zc ?_;rw[e_zeros hA];simp only[e_next hA,e_push hA,e_nat hA,hN,Int.toNat_natCast,Int.toNat_zero];rw[zcks];have ex:=Ext.push h 3 ((List.replicate n zeC).flatMap Ck.cells);have ox:=Own.push h 3 ((List.replicate n zeC).flatMap Ck.cells);have nx:(h.push 3 ((List.replicate n zeC).flatMap Ck.cells)).next=h.next+1:=rfl;generalize h.push 3 ((List.replicate n zeC).flatMap Ck.cells)=h1 at *;refine zc ?_;refine pr_loop hA (h0:=h) hlow rfl hn hu0 hF hM (b:=h.next) (Nat.le_refl _) (fun h2 e he hk x2 e' kn K=>?_) (fun h2 L o2 l2 k2 b2 x2=>?_) n 0 0 h1 (List.replicate n zeC) (by omega) (by omega) (by omega) rfl ox (by simp) (fun j j0 j1=>by omega) (by omega) ex
  ·refine zc ?_
   exact hno h2 e he hk x2
  ·refine zc ?_
   exact hok h2 h.next L (by have:=Own.rows o2 ck_len (by omega) b2;rw[l2]at this;exact this) k2 x2
theorem fact1_ok{h:AHeap}(hlow:h.low<=h.next){p q:Nat}{ga:Option Addr}{gn gc:Nat}{G:List Ck}(hG:Cs h ga gn G){a:Option Addr}{n c:Nat}{l:List Vk}(hl:Vs h a n l)(hp:Own h p 1 [.slice ga gn gc])(hq:Own h q 1 [.slice a n c])(bp:p<h.next)(bq:q<h.next){k:Int}(k0:0<=k)(k1:k<n)(hin:inG gn (gt l k)){Q:Value->AHeap->Prop}(hQ:∀h',Ext h h'->Q (.tuple #[ckV (gt G (gt l k).i),ckV (gt l k).ck]) h') :
  call 20 [.int .i64 k,.pointer (some ⟨p,0,none⟩),.pointer (some ⟨q,0,none⟩)] h Q:=by
 obtain⟨h9,hh9⟩:∃z,z=bump h 15:=⟨_,rfl⟩;have e9:Ext h h9:=by rw[hh9];exact ext_bump hA _ _
 have d1:rd h9 p 0 1 [.slice ga gn gc]:=rd_at hA ((hp.ext e9 bp).readG (o:=0) (n:=1) (by simp));have d2:rd h9 q 0 1 [.slice a n c]:=rd_at hA ((hq.ext e9 bq).readG (o:=0) (n:=1) (by simp));obtain⟨bb,o,x,y,re,im,d,w,rfl,hbb,hgt,r1,f⟩:=vs_at (hl.ext e9) (i:=k) k0 k1;rw[hgt]at hin hQ f;obtain⟨i1,i2,i3,_⟩:=hin;simp only at i1 i2 i3;have d3:rd h9 bb (addN (place o k 6) 0) 1 [.int .i64 x]:=rd_fld hA (f 0 1 (by omega) (by omega));have d4:rd h9 bb (addN (place o k 6) 2) 3 [.int .i64 re,.int .i64 im,.int .i64 d]:=rd_fld hA (f 2 3 (by omega) (by omega));obtain⟨bg,og,u,v,e,rfl,_,hgg,r2⟩:=cs_at (hG.ext e9) (i:=x) i1 (by omega);have d5:rd h9 bg (place og x 3) 3 [.int .i64 u,.int .i64 v,.int .i64 e]:=rd_ok hA r2;refine hA.bodyR Try.func20 r20_ok (hA.alike _ _ _ rfl) hlow (zc ?_);rw[<-hh9];refine zq ?_;have fin:=hQ h9 e9;simp only at fin;rw[hgg]at fin;exact fin
theorem fact2_ok{h:AHeap}(hlow:h.low<=h.next){p q:Nat}{ga:Option Addr}{gn gc:Nat}{G:List Ck}(hG:Cs h ga gn G){a:Option Addr}{n c:Nat}{l:List Vk}(hl:Vs h a n l)(hp:Own h p 1 [.slice ga gn gc])(hq:Own h q 1 [.slice a n c])(bp:p<h.next)(bq:q<h.next){r fn fc:Nat}{fa:Option Addr}{P:List Ck}(hP:Cs h fa fn P)(hr:Own h r 1 [.slice fa fn fc])(br':r<h.next)(hfn:fn=n){k:Int}(k0:0<=k)(k1:k<n)(hin:inG gn (gt l k)){Q:Value->AHeap->Prop}(hQ:∀h',Ext h h'->Q (.tuple #[ckV (gt P k),ckV (gt G (gt l k).j)]) h') :
  call 22 [.int .i64 k,.pointer (some ⟨r,0,none⟩),.pointer (some ⟨p,0,none⟩),.pointer (some ⟨q,0,none⟩)] h Q:=by
 obtain⟨h9,hh9⟩:∃z,z=bump h 14:=⟨_,rfl⟩;have e9:Ext h h9:=by rw[hh9];exact ext_bump hA _ _
 have d1:rd h9 p 0 1 [.slice ga gn gc]:=rd_at hA ((hp.ext e9 bp).readG (o:=0) (n:=1) (by simp));have d2:rd h9 q 0 1 [.slice a n c]:=rd_at hA ((hq.ext e9 bq).readG (o:=0) (n:=1) (by simp));have d0:rd h9 r 0 1 [.slice fa fn fc]:=rd_at hA ((hr.ext e9 br').readG (o:=0) (n:=1) (by simp));obtain⟨bb,o,x,y,re,im,d,w,rfl,hbb,hgt,r1,f⟩:=vs_at (hl.ext e9) (i:=k) k0 k1;rw[hgt]at hin hQ f;obtain⟨i1,i2,i3,_⟩:=hin;simp only at i1 i2 i3;have d3:rd h9 bb (addN (place o k 6) 1) 1 [.int .i64 y]:=rd_fld hA (f 1 1 (by omega) (by omega));obtain⟨bg,og,u,v,e,rfl,_,hgg,r2⟩:=cs_at (hG.ext e9) (i:=y) (by omega) (by omega);have d5:rd h9 bg (place og y 3) 3 [.int .i64 u,.int .i64 v,.int .i64 e]:=rd_ok hA r2;obtain⟨bf,of,u',v',e',rfl,_,hgf,r3⟩:=cs_at (hP.ext e9) (i:=k) k0 (by omega);have d6:rd h9 bf (place of k 3) 3 [.int .i64 u',.int .i64 v',.int .i64 e']:=rd_ok hA r3;refine hA.bodyR Try.func22 r22_ok (hA.alike _ _ _ rfl) hlow (zc ?_);rw[<-hh9];refine zq ?_;have fin:=hQ h9 e9;simp only at fin;rw[hgg,hgf]at fin;exact fin
theorem act_loop1{h0:AHeap}(hlow0:h0.low<=h0.next){p:Nat}{ga:Option Addr}{gn gc:Nat}{a:Option Addr}{n c:Nat}{l:List Vk}(hl:Vs h0 a n l)(hn:n<=1000)(hp:Own h0 p 1 [.slice ga gn gc])(bp:p<h0.next){q:Nat}{N:Int}(hN:N=n){Q:Exit->SS->Prop}
  (hno:∀h' v,v∈l->¬inG gn v->Ext h0 h'->∀e' kn K,Q .ret ⟨(5,.int .i64 8) :: (4,.slice none 0 0) :: e',kn,K,h'⟩)
  (hok:∀h',(∀v∈l,inG gn v)->Ext h0 h'->Q (.exit 0) ⟨[(2,.pointer (some ⟨p,0,none⟩)),(3,.pointer (some ⟨q,0,none⟩))],0,[],h'⟩) :
  ∀(m:Nat) (i:Int) (h:AHeap),(n-i).toNat<=m->0<=i->i<=n->(∀v∈l.take i.toNat,inG gn v)->Ext h0 h->
   head 7 7 0 ⟨[(2,.pointer (some ⟨p,0,none⟩)),(3,.pointer (some ⟨q,0,none⟩)),(23,.slice a n c),(24,.int .i64 N),(25,.int .i64 i)],0,[],h⟩ Q:=by
 have hlen:=hl.len;refine upTo (fun m ih=>?_);intro i h hm i0 i1 hp' he;by_cases ci:i<n
 rotate_left
 ·refine hA.roundR Try.func7 r7_ok (zc ?_)
  refine br (i<N) (by rw[e_lss hA]) (fun c1=>by omega) (fun c1=>?_)<;>refine zc ?_;rw[List.take_of_length_le (by omega)]at hp';exact hok h hp' he
 obtain⟨m,rfl⟩:∃k,m=k+1:=⟨m-1,by omega⟩
 replace ih:=ih m rfl
 obtain⟨bb,o,x,y,re,im,d,w,rfl,hbb,hgt,r1,_⟩:=vs_at (hl.ext he) (i:=i) i0 ci;have q1:=rd_ok hA r1;have e2:arith .add .i64 i 1=i+1:=add64 hA (by omega) (by omega);have htk:=gt_take l i0 (by omega);rw[hgt]at htk;have hmem:(⟨x,y,re,im,d,w⟩:Vk)∈l:=by rw[<-hgt];exact gt_mem l i0 (by omega)
 have d1:rd h p 0 1 [.slice ga gn gc]:=rd_at hA ((hp.ext he bp).readG (o:=0) (n:=1) (by simp));refine hA.roundR Try.func7 r7_ok (zc ?_);refine br (i<N) (by rw[e_lss hA]) (fun c1=>?_) (fun c1=>by omega)<;>refine zc ?_;refine zq ?_;refine⟨_,_,_,_,_,_,q1,?_⟩;refine zq ?_;refine gvalid_ok hA (he.lowOK hlow0) ⟨x,y,re,im,d,w⟩ gn (e_ofNat hA gn) (fun r h1 hr x1=>⟨_,rfl,?_⟩);refine zc ?_;refine br (r=false) (by rw[e_bnot hA];cases r<;>rfl) (fun c2=>?_) (fun c2=>?_)<;>refine zc ?_
 ·exact hno h1 _ hmem (fun g=>by rw[hr.2 g]at c2;cases c2) (he.trans x1) _ _ _
 rw[e2];refine ih (i+1) h1 (by omega) (by omega) (by omega) ?_ (he.trans x1);rw[htk];intro v hv;rcases List.mem_append.1 hv with z|z
 ·exact hp' v z
 ·rw[List.mem_singleton.1 z];exact hr.1 (by cases r with|true=>rfl|false=>exact absurd rfl c2)
theorem act_loop2{h0:AHeap}{a:Option Addr}{n c:Nat}{l:List Vk}(hl:Vs h0 a n l)(hn:n<=1000){fa:Option Addr}{fc:Nat}{P:List Ck}(hP:Cs h0 fa n P){b:Nat}(hb0:h0.next<=b){N:Int}(hN:N=n){Q:Exit->SS->Prop}
  (hok:∀h' L,Own h' b 6 (L.flatMap Vk.cells)->L.length=n->(∀k:Int,0<=k->k<n->gt L k=⟨(gt l k).i,(gt l k).j,(gt P k).a,(gt P k).b,(gt P k).d,(gt l k).n⟩)->b<h'.next->Ext h0 h'->Q (.exit 2) ⟨[(12,.slice (some ⟨b,0,none⟩) n n)],0,[],h'⟩) :
  ∀(m:Nat) (i:Int) (h:AHeap) (L:List Vk),(n-i).toNat<=m->0<=i->i<=n->Own h b 6 (L.flatMap Vk.cells)->L.length=n->(∀k:Int,0<=k->k<i->gt L k=⟨(gt l k).i,(gt l k).j,(gt P k).a,(gt P k).b,(gt P k).d,(gt l k).n⟩)->b<h.next->Ext h0 h->
   head 7 20 0 ⟨[(11,.slice fa n fc),(12,.slice (some ⟨b,0,none⟩) n n),(58,.slice a n c),(59,.int .i64 N),(60,.int .i64 i)],0,[],h⟩ Q:=by
 have hlen:=hl.len;refine upTo (fun m ih=>?_);intro i h L hm i0 i1 ho hL hp hb he;by_cases ci:i<n
 rotate_left
 ·refine hA.roundR Try.func7 r7_ok (zc ?_)
  refine br (i<N) (by rw[e_lss hA]) (fun c1=>by omega) (fun c1=>?_)<;>refine zc ?_;exact hok h L ho hL (fun k k0 k1=>hp k k0 (by omega)) hb he
 obtain⟨m,rfl⟩:∃k,m=k+1:=⟨m-1,by omega⟩
 replace ih:=ih m rfl
 obtain⟨bb,o,x,y,re,im,d,w,rfl,hbb,hgt,r1,f⟩:=vs_at (hl.ext he) (i:=i) i0 ci;have q1:=rd_ok hA r1;have e2:arith .add .i64 i 1=i+1:=add64 hA (by omega) (by omega);obtain⟨h9,hh9⟩:∃z,z=bump h 15:=⟨_,rfl⟩;have e9:Ext h h9:=by rw[hh9];exact ext_bump hA _ _
 have y9:=he.trans e9;obtain⟨bf,of,u',v',e',rfl,_,hgf,r3⟩:=cs_at (hP.ext y9) (i:=i) i0 (by omega);have d6:rd h9 bf (place of i 3) 3 [.int .i64 u',.int .i64 v',.int .i64 e']:=rd_ok hA r3;obtain⟨h3,w3,o3,k3⟩:=Own.setRow (ho.ext e9 hb) vk_len (i:=i.toNat) (by omega) (⟨x,y,u',v',e',w⟩:Vk);have ww:wr h9 b (place 0 i 6) [.int .i64 x,.int .i64 y,.int .i64 u',.int .i64 v',.int .i64 e',.int .i64 w] h3:=wr_ok hA (by rw[Nat.zero_add];exact w3);have n9:=e9.next;have n3:=k3.next;refine hA.roundR Try.func7 r7_ok (zc ?_);refine br (i<N) (by rw[e_lss hA]) (fun c1=>?_) (fun c1=>by omega)<;>refine zc ?_;refine zq ?_;refine⟨_,_,_,_,_,_,q1,?_⟩;refine zq ?_;rw[<-hh9];refine zq ?_;rw[e2];refine ih (i+1) h3 (L.set i.toNat ⟨x,y,u',v',e',w⟩) (by omega) (by omega) (by omega) o3 (by rw[List.length_set];exact hL) (fun k k0 k1=>?_) (by omega) (k3.ext y9 hb0);rw[gt_set L i0 k0 (by omega)];by_cases ck:k=i
 ·rw[if_pos ck,ck,hgt,hgf]
 ·rw[if_neg ck];exact hp k k0 (by omega)
end Go.Proofs.Ytlimjlpjldijdaa
namespace Go.Proofs.Ytlimjlpjldijdaa
open Go.Sim
set_option maxRecDepth 100000
def zeV:Vk:=⟨0,0,0,0,0,0⟩
theorem zvks:∀n:Nat,copies [Value.int .i64 0,.int .i64 0,.int .i64 0,.int .i64 0,.int .i64 0,.int .i64 0] n=(List.replicate n zeV).flatMap Vk.cells
 |0=>rfl
 |n+1=>by
  rw[List.replicate_succ,List.flatMap_cons,<-zvks n];rfl
variable{F:Prims}{call head arith cmp scmp bnot bsame conv neg imax imin ofNat slen place inR nz geZ rd wr push next mkOK nat zeros sadd eqAgg cut slc sslc strAt part app cpy putAt fresh lowered bump wrote addN lt ne fpAll fpApp brk yn rng mget mput mnew bytes clr mrng ment:_}(hA:AP F ⟨call,head,arith,cmp,scmp,bnot,bsame,conv,neg,imax,imin,ofNat,slen,place,inR,nz,geZ,rd,wr,push,next,mkOK,nat,zeros,sadd,eqAgg,cut,slc,sslc,strAt,part,app,cpy,putAt,fresh,lowered,bump,wrote,addN,lt,ne,fpAll,fpApp,brk,yn,rng,mget,mput,mnew,bytes,clr,mrng,ment⟩)
include hA
theorem gact_ok{h:AHeap}(hlow:h.low<=h.next){ga:Option Addr}{gn gc:Nat}{G:List Ck}(hG:Cs h ga gn G){a:Option Addr}{n c:Nat}{l:List Vk}(hl:Vs h a n l){Q:Value->AHeap->Prop}
  (hno:∀h' e,e≠0->ActX G l [] e->Ext h h'->Q (.tuple #[.slice none 0 0,.int .i64 e]) h')
  (hok:∀h' b m,ActX G l m 0->Vs h' (some ⟨b,0,none⟩) n m->h.next<=b->Ext h h'->Q (.tuple #[.slice (some ⟨b,0,none⟩) n n,.int .i64 0]) h') :
  call 7 [.slice ga gn gc,.slice a n c] h Q:=by
 have glen:=hG.len;have hlen:=hl.len;refine hA.bodyR Try.func7 r7_ok (hA.alike _ _ _ rfl) hlow (zc ?_);simp only[e_next hA,e_push hA];have xA:=Ext.push h 1 [Value.slice ga gn gc];have oA:=Own.push h 1 [Value.slice ga gn gc];have nA:(h.push 1 [Value.slice ga gn gc]).next=h.next+1:=rfl;generalize h.push 1 [Value.slice ga gn gc]=h1 at *;have xB:=Ext.push h1 1 [Value.slice a n c];have oB:=Own.push h1 1 [Value.slice a n c];have nB:(h1.push 1 [Value.slice a n c]).next=h1.next+1:=rfl;generalize h1.push 1 [Value.slice a n c]=h2 at *;have oA:=oA.ext xB (by omega);have y2:=xA.trans xB;obtain⟨p,hp⟩:∃v,v=h.next:=⟨_,rfl⟩;rw[<-hp]at oA nA ⊢;obtain⟨q,hq⟩:∃v,v=h1.next:=⟨_,rfl⟩;rw[<-hq]at oB nB ⊢;have d1:rd h2 p 0 1 [.slice ga gn gc]:=rd_at hA (oA.readG (o:=0) (n:=1) (by simp));refine zq ?_;refine gcheck_ok hA (y2.lowOK hlow) (hG.ext y2) (fun e h3 he hk x3=>⟨_,rfl,?_⟩) (fun h3 hk x3=>⟨_,rfl,?_⟩)
 ·refine zc ?_
  refine br (e≠0) (by rw[e_neq hA]) (fun _=>?_) (fun q=>absurd he q)<;>refine zc ?_;exact hno h3 e he (.gains he hk) (y2.trans x3)
 have y3:=y2.trans x3;have oA3:=oA.ext x3 (by omega);have oB3:=oB.ext x3 (by omega);have n3:=x3.next;have d2:rd h3 q 0 1 [.slice a n c]:=rd_at hA (oB3.readG (o:=0) (n:=1) (by simp));refine zc ?_;refine br False (by rw[e_neq hA];rfl) (fun q=>q.elim) (fun _=>?_)<;>refine zc ?_;refine zq ?_;refine br ((64:Int)<n) (by rw[e_gtr hA,e_ofNat hA]) (fun c2=>?_) (fun c2=>?_)<;>refine zc ?_
 ·exact hno h3 4 (by omega) (.many (by omega) (by omega)) y3
 refine zq ?_;refine act_loop1 hA (y3.lowOK hlow) (hl.ext y3) (by omega) oA3 (by omega) (q:=q) (e_ofNat hA n) (fun h4 v hv hb x4 e' kn K=>?_) (fun h4 hin x4=>?_) n 0 h3 (by omega) (by omega) (by omega) (fun v hv=>by simp at hv) (.refl h3)
 ·refine zc ?_
  exact hno h4 8 (by omega) (.bad (by omega) hv (by rw[glen];exact hb)) (y3.trans x4)
 have y4:=y3.trans x4;have oA4:=oA3.ext x4 (by omega);have oB4:=oB3.ext x4 (by omega);have n4:=x4.next;have d4:rd h4 q 0 1 [.slice a n c]:=rd_at hA (oB4.readG (o:=0) (n:=1) (by simp));refine zq ?_;have hn4:n<=1000:=by omega
 have inK:∀k:Int,0<=k->k<n->inG gn (gt l k):=fun k k0 k1=>hin _ (gt_mem l k0 (by omega))
 refine products_ok hA (y4.lowOK hlow) (e_ofNat hA n) hn4 (fa:=20) (ga:=21) (cl:=[.pointer (some ⟨p,0,none⟩),.pointer (some ⟨q,0,none⟩)]) (.inl ⟨rfl,rfl,_,_,rfl⟩) (A:=fun k=>gt G (gt l k).i) (B:=fun k=>(gt l k).ck) (M:=mulO) (fun k h' R k0 k1 x hR=>?_) (fun k h' R k0 k1 x hR=>?_) (fun h5 e he hk x5=>⟨_,_,_,_,rfl,?_⟩) (fun h5 b5 P hP kP x5=>⟨_,_,_,_,rfl,?_⟩)
 ·have:=x.next
  exact fact1_ok hA ((y4.trans x).lowOK hlow) (hG.ext (y4.trans x)) (hl.ext (y4.trans x)) (oA4.ext x (by omega)) (oB4.ext x (by omega)) (by omega) (by omega) k0 k1 (inK k k0 k1) hR
 ·exact cmul_ok hA ((y4.trans x).lowOK hlow) (fun r s u e h2 ho x2=>hR ⟨r,s,u⟩ e h2 ho x2)
 ·refine zc ?_
  simp only[e_next hA,e_push hA];obtain⟨k,r,k0,k1,hv⟩:=hk;have x6:=Ext.push h5 1 [Value.slice none 0 0];have oC:=Own.push h5 1 [Value.slice none 0 0];generalize h5.push 1 [Value.slice none 0 0]=h6 at *;obtain⟨h7,w7,_,k7⟩:=oC.write (o:=0) (vs:=[.slice none 0 0]) (by simp);refine⟨h7,wr_at hA w7,?_⟩;have x7:Ext h5 h7:=k7.ext x6 (Nat.le_refl _);refine zc ?_;refine br (e≠0) (by rw[e_neq hA]) (fun _=>?_) (fun q=>absurd he q)<;>refine zc ?_;exact hno h7 e he (.fst he (gt_mem l k0 (by omega)) hv) ((y4.trans x5).trans x7)
 have y5:=y4.trans x5;refine zc ?_;simp only[e_next hA,e_push hA];have x6':=Ext.push h5 1 [Value.slice none 0 0];have oC':=Own.push h5 1 [Value.slice none 0 0];have nC':(h5.push 1 [Value.slice none 0 0]).next=h5.next+1:=rfl;generalize h5.push 1 [Value.slice none 0 0]=h5' at *;obtain⟨r,hr⟩:∃v,v=h5.next:=⟨_,rfl⟩;rw[<-hr]at oC' nC' ⊢;obtain⟨h6,w6,oC,k6⟩:=oC'.write (o:=0) (vs:=[.slice (some ⟨b5,0,none⟩) n n]) (by simp);refine⟨h6,wr_at hA w6,?_⟩;have x6:Ext h5 h6:=k6.ext x6' (by omega);have nC:h6.next=r+1:=by rw[k6.next,nC']
 have oC:Own h6 r 1 [.slice (some ⟨b5,0,none⟩) n n]:=oC;have y6:=y5.trans x6;have n5:=x5.next;have oA6:=oA4.ext (x5.trans x6) (by omega);have oB6:=oB4.ext (x5.trans x6) (by omega);have d6:rd h6 q 0 1 [.slice a n c]:=rd_at hA (oB6.readG (o:=0) (n:=1) (by simp));refine zc ?_;refine br False (by rw[e_neq hA];rfl) (fun q=>q.elim) (fun _=>?_)<;>refine zc ?_;refine zq ?_;refine products_ok hA (y6.lowOK hlow) (e_ofNat hA n) hn4 (fa:=22) (ga:=23) (cl:=[.pointer (some ⟨r,0,none⟩),.pointer (some ⟨p,0,none⟩),.pointer (some ⟨q,0,none⟩)]) (.inr ⟨rfl,rfl,_,_,_,rfl⟩) (A:=fun k=>gt P k) (B:=fun k=>gt G (gt l k).j) (M:=fun x y v e=>mulO x (conjK y) v e) (fun k h' R k0 k1 x hR=>?_) (fun k h' R k0 k1 x hR=>?_) (fun h7 e he hk x7=>⟨_,_,_,_,rfl,?_⟩) (fun h7 b7 S hS kS x7=>⟨_,_,_,_,rfl,?_⟩)
 ·have:=x.next
  exact fact2_ok hA ((y6.trans x).lowOK hlow) (hG.ext (y6.trans x)) (hl.ext (y6.trans x)) (oA6.ext x (by omega)) (oB6.ext x (by omega)) (by omega) (by omega) (hP.ext (x6.trans x)) (oC.ext x (by omega)) (by omega) rfl k0 k1 (inK k k0 k1) hR
 ·have ik:=inK k k0 k1
  exact tconj_ok hA ((y6.trans x).lowOK hlow) (hk.2.2 _ (gt_mem G (by have:=ik.1;have:=ik.2.1;omega) (by have:=ik.2.2.1;omega))).1 (fun r e h2 ho x2=>hR r e h2 ho x2)
 ·refine zc ?_
  refine br (e≠0) (by rw[e_neq hA]) (fun _=>?_) (fun q=>absurd he q)<;>refine zc ?_;obtain⟨k,r,k0,k1,hv⟩:=hk;exact hno h7 e he (.snd he (gt_mem l k0 (by omega)) (kP k k0 k1) hv) (y6.trans x7)
 have y7:=y6.trans x7;have n7:=x7.next;have oB7:=oB6.ext x7 (by omega);have d7:rd h7 q 0 1 [.slice a n c]:=rd_at hA (oB7.readG (o:=0) (n:=1) (by simp));refine zc ?_;refine br False (by rw[e_neq hA];rfl) (fun q=>q.elim) (fun _=>?_)<;>refine zc ?_;refine zq ?_;have eN:ofNat n=n:=e_ofNat hA n;refine⟨mk_ok hA (by omega) (by omega) (by omega),?_⟩;refine zc ?_;rw[e_zeros hA];simp only[e_next hA,e_push hA,e_nat hA,eN,Int.toNat_natCast];rw[zvks];have ex:=Ext.push h7 6 ((List.replicate n zeV).flatMap Vk.cells);have ox:=Own.push h7 6 ((List.replicate n zeV).flatMap Vk.cells);have nx:(h7.push 6 ((List.replicate n zeV).flatMap Vk.cells)).next=h7.next+1:=rfl;generalize h7.push 6 ((List.replicate n zeV).flatMap Vk.cells)=h8 at *;have d8:rd h8 q 0 1 [.slice a n c]:=rd_at hA ((oB7.ext ex (by omega)).readG (o:=0) (n:=1) (by simp));refine zq ?_;refine act_loop2 hA (hl.ext y7) hn4 hS (b:=h7.next) (Nat.le_refl _) eN (fun h9 L o9 l9 k9 b9 x9=>?_) n 0 h8 (List.replicate n zeV) (by omega) (by omega) (by omega) ox (by simp) (fun k k0 k1=>by omega) (by omega) ex;refine zc ?_;have r9:=Own.rows o9 vk_len (by omega) b9;rw[l9]at r9;refine hok h9 h7.next L (.ok hk (by omega) (fun v hv=>by rw[glen];exact hin v hv) (fun k k0 k1=>?_)) r9 (y7.next) (y7.trans x9);have g9:=k9 k k0 (by omega);have m1:=kP k k0 (by omega);have m2:=kS k k0 (by omega);exact⟨by rw[g9],by rw[g9],by rw[g9],_,m1,by rw[g9];exact m2⟩
