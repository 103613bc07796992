import Derived.Test.YtdpbiegfljmhmaaTrH
import Derived.Test.YtdpbiegfljmhmaaSmX
set_option linter.unusedSimpArgs false
set_option linter.unusedVariables false
namespace Go.Proofs.Ytdpbiegfljmhmaa
open Go.Sim
set_option maxRecDepth 100000
structure RefRel(g:List (List Int))(m n r s:Nat)(H G:Nat->Ext.Vec):Prop where
 lat:Ext.Lat (n+m) m H (joinM g n)
 top:Ext.Hnf (n+m) r H
 lead:∀y,y<r->Ext.leadV (n+m) (H y)<n
 low:∀i c,r<=i->i<m->c<n->H i c=0
 sum:r+s=m
 hnf:Ext.Hnf m s G
 rel:Ext.Lat m s G (fun y j=>H (r+y) (n+j))
variable{F:Prims}{call head arith cmp scmp bnot bsame conv neg imax imin ofNat slen place inR nz geZ rd wr push next mkOK nat zeros sadd eqAgg cut slc sslc strAt part app cpy putAt fresh lowered bump wrote addN lt ne fpAll fpApp brk yn rng mget mput mnew bytes clr:_}(hA:AP F ⟨call,head,arith,cmp,scmp,bnot,bsame,conv,neg,imax,imin,ofNat,slen,place,inR,nz,geZ,rd,wr,push,next,mkOK,nat,zeros,sadd,eqAgg,cut,slc,sslc,strAt,part,app,cpy,putAt,fresh,lowered,bump,wrote,addN,lt,ne,fpAll,fpApp,brk,yn,rng,mget,mput,mnew,bytes,clr⟩)
include hA
theorem rel_loop{h0:AHeap}(hl0:h0.low<=h0.next){m n w r s ac rc:Nat}{aa ra:Option Addr}{bs:Nat->Nat}{A:Nat->Ext.Vec}(hw:w=n+m)(n1:1<=n)(n4:n<=4)(m1:1<=m)(m4:m<=4)(es:r+s=m){M N:Int}(eM:M=m)(eN:N=n){Q:Exit->SS->Prop}
  (hQ:∀(h':AHeap) qa qc rb,Grd h0 h' s m qa qc rb (fun y j=>A (r+y) (n+j))->Q (.exit 0) ⟨[(0,.slice aa m ac),(6,.slice qa s qc)],0,[],h'⟩) :
  ∀(d v:Nat) (I:Int) (h:AHeap) (qa:Option Addr) (qc:Nat) (rb:Nat->Nat),s-v<=d->v<=s->I=((r+v:Nat):Int)->Grd h0 h m w ra rc bs A->Grd h0 h v m qa qc rb (fun y j=>A (r+y) (n+j))->
   (∀ad,qa=some ad->∀y,y<m->ad.block≠bs y)->(∀ad,ra=some ad->∀bd,qa=some bd->ad.block≠bd.block)->
   head 30 6 0 ⟨[(0,.slice aa m ac),(3,.slice ra m rc),(4,.int .i64 N),(6,.slice qa v qc),(7,.int .i64 I)],0,[],h⟩ Q:=by
 intro d;have e0:ofNat m=M:=by rw[eM];exact e_ofNat hA m
 induction d with
 |zero=>
  intro v I h qa qc rb hd hv eI t q z1 z2;refine hA.roundR Try.func30 r30_ok (zc ?_)
  (refine zq ?_;repeat ((first|rw[e0]);refine zq ?_))
  refine br (I<M) (by rw[e_lss hA]) (fun q=>by omega) (fun _=>?_)<;>refine zc ?_;obtain rfl:v=s:=by omega
  exact hQ h qa qc rb q
 |succ d ih=>
 intro v I h qa qc rb hd hv eI t q z1 z2;by_cases ci:v<s
 rotate_left
 ·refine hA.roundR Try.func30 r30_ok (zc ?_)
  (refine zq ?_;repeat ((first|rw[e0]);refine zq ?_))
  refine br (I<M) (by rw[e_lss hA]) (fun q=>by omega) (fun _=>?_)<;>refine zc ?_;obtain rfl:v=s:=by omega
  exact hQ h qa qc rb q
 obtain⟨i,ei⟩:∃i,i=r+v:=⟨_,rfl⟩;have him:i<m:=by omega
 obtain⟨cw,ecw⟩:∃z,z=someCap 1 w:=⟨_,rfl⟩;have xp:Ext h (push h 1 []):=by rw[e_push hA];exact Ext.push h 1 []
 have tp:=t.more xp;obtain⟨ab,rfl,hab,q1⟩:=tp.head him;rw[<-ecw]at q1;have r1:rd (push h 1 []) ab (place 0 I 1) 1 [.slice (some ⟨bs i,0,none⟩) w cw]:=rd_ok hA (by rw[eI,<-ei];exact q1);refine hA.roundR Try.func30 r30_ok (zc ?_)
 (refine zq ?_;repeat ((first|rw[e0]);refine zq ?_))
 refine br (I<M) (by rw[e_lss hA]) (fun _=>?_) (fun q=>by omega)<;>refine zc ?_;refine zq ?_;rw[ecw];refine slc_any hA TI1 (n:=w) (i:=N) (by omega) (by omega) (by omega) (fun c'=>?_);rw[show 0+N.toNat*1=0+n*1 by omega,show w-N.toNat=m by omega,<-ecw];have tl:=t.rows.tail him hw;obtain⟨o,eo⟩:∃z,z=0+n*1:=⟨_,rfl⟩;rw[<-eo]at tl ⊢;refine zq ?_;refine copy2_ok hA tl (by omega) (fun h1 b1 c1 o1 x1 lb=>?_);obtain⟨k1,k2,k3,k4⟩:=o1;have ec1:c1=someCap 1 m:=by rcases k4 with ⟨_,q⟩|q;omega;exact q
 have t1:=t.more x1;have q2:=q.more x1;have n1':=x1.next;have hn0:=t.rows.ext.next;refine zq ?_;refine appK_ok hA TLL hd_len (by omega) hd_ok (v:=(⟨some ⟨b1,0,none⟩,m,c1⟩:Hd)) q2.apd (by omega) (fun b' h' a' x' n' nb' k'=>?_);rw[ec1]at a';have xe:Ext h0 h':=x' h0 t1.rows.ext q.fr;obtain⟨rb2,q3⟩:=q2.add k1 (by omega) k2 (fun y hy=>by have:=q.rows.lt y hy;omega) (fun ad had=>by have:=q.apd.lt ad had;omega) a' xe n' nb' k';have q4:Grd h0 h' (v+1) m (some ⟨b',0,none⟩) (someCap 1 (v+1)) rb2 (fun y j=>A (r+y) (n+j)):=q3.congr (fun y x hy hx=>by
  by_cases c:y=v
  ·simp only[if_pos c];rw[c,ei]
  ·simp only[if_neg c])
 have kr:∀y,y<m->h'.m.get (bs y)=h1.m.get (bs y):=fun y hy=>k' _ (t1.rows.lt y hy) (fun ad had=>z1 ad had y hy)
 have hab':ab<h1.next:=t1.apd.lt _ rfl;have t2:Grd h0 h' m w (some ⟨ab,0,none⟩) rc bs A:=⟨t1.rows.keep xe (Nat.le_of_lt n') kr,t1.apd.of_get (Nat.le_of_lt n') (fun ad had hl=>by cases had;exact k' ab hab' (fun bd hbd=>(z2 _ rfl bd hbd).symm)),t.fr,t.nra⟩;have nx:=ih (v+1) (I+1) h' (some ⟨b',0,none⟩) (someCap 1 (v+1)) rb2 (by omega) (by omega) (by omega) t2 q4 (fun ad had y hy=>by cases had;have:=t1.rows.lt y hy;show b'≠_;omega) (fun ad had bd hbd=>by cases had;cases hbd;show ab≠b';omega);generalize someCap 1 (v+1)=cc at *;generalize v+1=v1 at *;refine zq ?_;rw[add64 hA (by omega) (by omega)];exact nx
theorem rrel_ok{h:AHeap}(hlow:h.low<=h.next){m n ac:Nat}{aa:Option Addr}{hds:List Hd}{g:List (List Int)}(hM:Mat g m n)(hg:GrR nC 1 h aa m hds g){Q:Value->AHeap->Prop}
  (hQ:∀h' r s qa qc rb H G,RefRel g m n r s H G->Grd h h' s m qa qc rb G->Q (.slice qa s qc) h'):call 30 [.slice aa m ac] h Q:=by
 have n1:=hM.n1;have n4:=hM.n4;have m1:=hM.m1;have m4:=hM.m4;obtain⟨M,eM⟩:∃z:Int,z=m:=⟨_,rfl⟩;have e0:ofNat m=M:=by rw[eM];exact e_ofNat hA m
 obtain⟨N,eN⟩:∃z:Int,z=n:=⟨_,rfl⟩;have e1:ofNat n=N:=by rw[eN];exact e_ofNat hA n
 refine hA.bodyR Try.func30 r30_ok (hA.alike _ _ _ rfl) hlow (zc ?_);refine joined_ok hA hlow hM hg (fun h1 ra rc bs t=>⟨_,_,_,rfl,?_⟩);have x1:=t.rows.ext;obtain⟨b,o,rfl,hb,q1⟩:=(hg.ext x1).hdAt (i:=0) (by omega) (by omega);obtain⟨xa,exa⟩:∃z,z=(gt hds 0).a:=⟨_,rfl⟩;obtain⟨xn,exn⟩:∃z,z=(gt hds 0).n:=⟨_,rfl⟩;obtain⟨xc,exc⟩:∃z,z=(gt hds 0).c:=⟨_,rfl⟩;have row:=hg.row 0 (by omega) (by omega);rw[<-exa,<-exn]at row;rw[<-exa,<-exn,<-exc]at q1;have r1:rd h1 b (place o 0 1) 1 [.slice xa xn xc]:=rd_ok hA q1;have hln:(gt g 0).length=n:=hM.row 0 (by omega) (by omega);obtain rfl:n=xn:=by have:=row.len;omega
 (refine zq ?_;repeat ((first|rw[e1]);refine zq ?_))
 refine triangle_ok hA hlow (Ext.P1_ok hM) (show n+m<=1000 by omega) (show m<=1000 by omega) t (Ext.T1_start hM) eN (fun h2 bs2 H a k A eA hk hc t2 tr=>⟨_,rfl,?_⟩);have am:=tr.am;obtain⟨s,es⟩:∃s,s=m-a:=⟨_,rfl⟩;refine zq ?_;refine rel_loop hA hlow (r:=a) (s:=s) rfl n1 n4 m1 m4 (by omega) eM eN (fun h3 qa qc rb q=>?_) s 0 A h2 none 0 (fun _=>0) (by omega) (by omega) (by omega) t2 ⟨⟨t2.rows.ext,fun y hy=>by omega,fun y hy=>by omega,fun y hy=>by omega,fun y z hy=>by omega⟩,.nil _ _,.none _,fun ad had=>by cases had⟩ (fun ad had=>by cases had) (fun ad had bd hbd=>by cases hbd);obtain⟨bb,fw,hb2⟩:=Ext.T1_few m4 tr;rw[<-es]at fw hb2
 (refine zq ?_;repeat ((first|rw[e0]);refine zq ?_))
 refine triangle_ok hA hlow (Ext.P2_ok (m:=m) fw (fun y j=>H (a+y) (n+j))) (show m<=1000 by omega) (show s<=1000 by omega) q (Ext.T2_start hb2) eM (fun h4 bs4 G a2 k2 A2 eA2 hk2 hc2 t4 tr2=>⟨_,rfl,?_⟩);refine zq ?_;obtain⟨f1,f2⟩:=Ext.T2_end tr2 hc2 (Ext.tails_nz m1 tr.lat (by omega));refine hQ h4 a s qa qc bs4 H G ⟨tr.lat,tr.top,fun y hy=>by have:=tr.lead y hy;omega,fun i c h1 h2 h3=>?_,by omega,f1,f2⟩ t4;rcases hc with q|q
 ·exact tr.low i c h1 h2 (by omega)
 ·omega
end Go.Proofs.Ytdpbiegfljmhmaa
namespace Go.Proofs.Ytdpbiegfljmhmaa
open Go.Sim
namespace Ext
theorem sumN_split(f:Nat->Int)(r:Nat):∀s,sumN f (r+s)=sumN f r+sumN (fun i=>f (r+i)) s
 |0=>by show sumN f r=sumN f r+0;omega
 |s+1=>by
  show sumN f (r+s)+f (r+s)=sumN f r+(sumN (fun i=>f (r+i)) s+f (r+s));rw[sumN_split f r s];omega
theorem Sp.rest{n m r s:Nat}{F:Nat->Vec}{v:Vec}(hs:r+s=m)(top:Stp (n+m) r F)(lead:∀y,y<r->leadV (n+m) (F y)<n)(low:∀i c,r<=i->i<m->c<n->F i c=0)(hv:Sp (n+m) m F v)(hz:∀c,c<n->v c=0):Sp m s (fun y j=>F (r+y) (n+j)) (fun j=>v (n+j)):=by
 obtain⟨y,hy⟩:=hv;have z:∀i,i<r->y i=0:=by
  intro i
  induction i using Nat.strongRecOn with
  |_ i ih=>
  intro hi;have p1:=lead i hi;have h1:=hy (leadV (n+m) (F i)) (by omega);rw[hz _ p1,sumN_from (i:=i) m (by omega) (fun k hk=>by rw[ih k hk (by omega)];omega) (fun k h1 h2=>by
   by_cases c:k<r
   ·rw[leadV_zero (w:=n+m) (v:=F k) (top.inc i k h1 c)];omega
   ·rw[low k _ (by omega) h2 p1];omega)]at h1
  have h2:=top.pos i hi;rcases Int.mul_eq_zero.1 h1.symm with q|q
  ·exact q
  ·omega
 refine⟨fun i=>y (r+i),fun j hj=>?_⟩;have h1:=hy (n+j) (by omega);rw[<-hs,sumN_split]at h1;rw[sumN_congr (g:=fun _=>0) r (fun i hi=>by rw[z i hi];omega),sumN_zero,Int.zero_add]at h1;exact h1
end Ext
theorem rel_same{g:List (List Int)}{m n r s r' s':Nat}{A H G:Nat->Ext.Vec}(a:StepsOf g m n r s A)(b:RefRel g m n r' s' H G):s=s'/\∀i,i<s->∀j,j<m->A (r+i) (n+j)=G i j:=by
 have sa:=a.sum;have sb:=b.sum;have alow:∀i c,r<=i->i<m->c<n->A i c=0:=fun i c h1 h2 h3=>Ext.leadV_zero (w:=n+m) (by have:=a.hi i h1 h2;omega)
 have la:∀i,i<s->Ext.leadV m (fun j=>A (r+i) (n+j))+n=Ext.leadV (n+m) (A (r+i)):=fun i hi=>by
  have h1:=a.hi (r+i) (by omega) (by omega);have h2:=a.hnf.lt (r+i) (by omega);have:=Ext.leadV_eq (w:=m) (v:=fun j=>A (r+i) (n+j)) (c:=Ext.leadV (n+m) (A (r+i))-n) (by omega) (fun j hj=>Ext.leadV_zero (w:=n+m) (by omega)) (fun _=>by
   show A (r+i) (n+(Ext.leadV (n+m) (A (r+i))-n))≠0;rw[show n+(Ext.leadV (n+m) (A (r+i))-n)=Ext.leadV (n+m) (A (r+i)) by omega];exact Ext.leadV_ne h2)
  omega
 have at_:∀i k,k<s->A (r+i) (n+Ext.leadV m (fun j=>A (r+k) (n+j)))=A (r+i) (Ext.leadV (n+m) (A (r+k))):=fun i k hk=>by
  have:=la k hk
  congr 1
  omega
 have ha:Ext.Hnf m s (fun i j=>A (r+i) (n+j)):=by
  refine⟨fun i hi=>?_,fun i hi=>?_,fun i j hi hj=>?_,fun i j hi hj=>?_⟩
  ·have:=la i hi;have:=a.hnf.lt (r+i) (by omega);omega
  ·rw[at_ i i hi];exact a.hnf.pos (r+i) (by omega)
  ·have:=la i (by omega);have:=la j hj;have:=a.hnf.inc (r+i) (r+j) (by omega) (by omega);omega
  ·rw[at_ i j hj,at_ j j hj];exact a.hnf.red (r+i) (r+j) (by omega) (by omega)
 have h1:∀i,i<s->Ext.Sp m s' G (fun j=>A (r+i) (n+j)):=fun i hi=>by
  have q1:Ext.Sp (n+m) m H (A (r+i)):=Ext.Sp.le b.lat.ge (a.lat.le (r+i) (by omega));exact Ext.Sp.le b.rel.ge (Ext.Sp.rest sb b.top.stp b.lead b.low q1 (fun c hc=>alow (r+i) c (by omega) (by omega) hc))
 have h2:∀i,i<s'->Ext.Sp m s (fun i j=>A (r+i) (n+j)) (G i):=fun i hi=>by
  refine Ext.Sp.le (fun l hl=>?_) (b.rel.le i hi);have q1:Ext.Sp (n+m) m A (H (r'+l)):=Ext.Sp.le a.lat.ge (b.lat.le (r'+l) (by omega));exact Ext.Sp.rest sa ⟨fun i hi=>a.hnf.lt i (by omega),fun i hi=>a.hnf.pos i (by omega),fun i j hi hj=>a.hnf.inc i j hi (by omega)⟩ a.lo alow q1 (fun c hc=>b.low (r'+l) c (by omega) (by omega) hc)
 exact Ext.Hnf.uniq ha b.hnf h1 h2
end Go.Proofs.Ytdpbiegfljmhmaa
namespace Go.Proofs.Ytdpbiegfljmhmaa
open Go.Sim
set_option maxRecDepth 100000
variable{F:Prims}{call head arith cmp scmp bnot bsame conv neg imax imin ofNat slen place inR nz geZ rd wr push next mkOK nat zeros sadd eqAgg cut slc sslc strAt part app cpy putAt fresh lowered bump wrote addN lt ne fpAll fpApp brk yn rng mget mput mnew bytes clr:_}(hA:AP F ⟨call,head,arith,cmp,scmp,bnot,bsame,conv,neg,imax,imin,ofNat,slen,place,inR,nz,geZ,rd,wr,push,next,mkOK,nat,zeros,sadd,eqAgg,cut,slc,sslc,strAt,part,app,cpy,putAt,fresh,lowered,bump,wrote,addN,lt,ne,fpAll,fpApp,brk,yn,rng,mget,mput,mnew,bytes,clr⟩)
include hA
theorem rRelations_ok{h:AHeap}(hlow:h.low<=h.next){m ac k bc:Nat}{aa ba:Option Addr}{hds:List Hd}{g:List (List Int)}{B:List Fc}(hg:GrN nC 1 h aa m hds g)(hB:Rows fC 2 h ba k B)(hm:m<=1000)(hk:k<=1000)(hl:∀i:Int,0<=i->i<m->(gt g i).length<=1000)(hi:∀i:Int,0<=i->i<k->i64 (gt B i).n/\i64 (gt B i).d){Q:Value->AHeap->Prop}
  (hQ0:∀e h',ChkIs g B e->e≠0->Ext h h'->Q (.tuple #[.slice none 0 0,.int .i64 e]) h')
  (hQ1:∀h0 h' n r s qa qc rb H G,ChkIs g B 0->Mat g m n->Ext h h0->RefRel g m n r s H G->Grd h0 h' s m qa qc rb G->Q (.tuple #[.slice qa s qc,.int .i64 0]) h'):call 11 [.agg #[.slice aa m ac,.slice ba k bc]] h Q:=by
 refine hA.bodyR Try.func11 r11_ok (hA.alike _ _ _ rfl) hlow (zc ?_);refine rCheck_ok hA hlow hg hB hm hk hl hi (fun e h1 he x1=>⟨e,rfl,?_⟩);refine zq ?_;refine br (e≠0) (by rw[e_neq hA]) (fun c=>?_) (fun c=>?_)<;>refine zc ?_
 ·refine zq ?_
  refine rCheck_ok hA (x1.lowOK hlow) (hg.ext x1) (hB.ext x1) hm hk hl hi (fun e2 h2 he2 x2=>⟨e2,rfl,?_⟩);refine zq ?_;obtain rfl:=he.uniq he2;exact hQ0 e h2 he c (x1.trans x2)
 obtain rfl:e=0:=by omega
 obtain⟨gd,nm⟩:=he.good;obtain⟨m',n,hM⟩:=gd.mat nm;obtain rfl:m=m':=by have:=hg.len;have:=hM.len;omega
 have hgf:=hg.full (fun y y0 y1=>by rw[hM.row y y0 y1];exact hM.n1);refine zq ?_;refine rrel_ok hA (x1.lowOK hlow) hM (hgf.ext x1) (fun h' r s qa qc rb H G a1 a2=>⟨_,_,_,rfl,?_⟩);refine zq ?_;exact hQ1 h1 h' n r s qa qc rb H G he hM x1 a1 a2
end Go.Proofs.Ytdpbiegfljmhmaa
namespace Go.Proofs.Ytdpbiegfljmhmaa
open Go.Sim
set_option maxRecDepth 100000
variable{F:Prims}{call head arith cmp scmp bnot bsame conv neg imax imin ofNat slen place inR nz geZ rd wr push next mkOK nat zeros sadd eqAgg cut slc sslc strAt part app cpy putAt fresh lowered bump wrote addN lt ne fpAll fpApp brk yn rng mget mput mnew bytes clr:_}(hA:AP F ⟨call,head,arith,cmp,scmp,bnot,bsame,conv,neg,imax,imin,ofNat,slen,place,inR,nz,geZ,rd,wr,push,next,mkOK,nat,zeros,sadd,eqAgg,cut,slc,sslc,strAt,part,app,cpy,putAt,fresh,lowered,bump,wrote,addN,lt,ne,fpAll,fpApp,brk,yn,rng,mget,mput,mnew,bytes,clr⟩)
include hA
theorem si_loop{h0:AHeap}(hl0:h0.low<=h0.next){n c c':Nat}{a a':Option Addr}{l:List Int}(p:Rows nC 1 h0 a n l)(q:Rows nC 1 h0 a' n l)(hn:n<=1000){N:Int}(eN:N=n){Q:Exit->SS->Prop}
  (hQ:∀h',Ext h0 h'->Q (.exit 0) ⟨[],0,[],h'⟩) :
  ∀(d i:Nat) (I:Int) (h:AHeap),n-i<=d->i<=n->I=i->Ext h0 h->
   head 14 4 0 ⟨[(0,.slice a n c),(1,.slice a' n c'),(5,.int .i64 I)],0,[],h⟩ Q:=by
 intro d;have e0:ofNat n=N:=by rw[eN];exact e_ofNat hA n
 induction d with
 |zero=>
  intro i I h hd hi eI x;refine hA.roundR Try.func14 r14_ok (zc ?_)
  (refine zq ?_;repeat ((first|rw[e0]);refine zq ?_))
  refine br (I<N) (by rw[e_lss hA]) (fun q=>by omega) (fun _=>?_)<;>refine zc ?_;exact hQ h x
 |succ d ih=>
 intro i I h hd hi eI x;by_cases ci:i<n
 rotate_left
 ·refine hA.roundR Try.func14 r14_ok (zc ?_)
  (refine zq ?_;repeat ((first|rw[e0]);refine zq ?_))
  refine br (I<N) (by rw[e_lss hA]) (fun q=>by omega) (fun _=>?_)<;>refine zc ?_;exact hQ h x
 obtain⟨h9,eh9⟩:∃z,z=bump h 9:=⟨_,rfl⟩;have x9:Ext h0 h9:=x.trans (by rw[eh9];exact ext_bump hA _ _);obtain⟨b,o,rfl,_,q1⟩:=(p.ext x9).at (i:=I) (by omega) (by omega);obtain⟨b',o',rfl,_,q2⟩:=(q.ext x9).at (i:=I) (by omega) (by omega);obtain⟨y,ey⟩:∃z,z=gt l I:=⟨_,rfl⟩;have q3:=q1 0 1 (by omega) (by omega);have q4:=q2 0 1 (by omega) (by omega);rw[<-ey]at q3 q4;have r1:rd h9 b (place o I 1) 1 [.int .i64 y]:=rd_ok hA q3;have r2:rd h9 b' (place o' I 1) 1 [.int .i64 y]:=rd_ok hA q4;refine hA.roundR Try.func14 r14_ok (zc ?_)
 (refine zq ?_;repeat ((first|rw[e0]);refine zq ?_))
 refine br (I<N) (by rw[e_lss hA]) (fun _=>?_) (fun q=>by omega)<;>refine zc ?_;rw[<-eh9];refine zq ?_;refine br (y≠y) (by rw[e_neq hA]) (fun q=>absurd rfl q) (fun _=>?_)<;>refine zc ?_;refine zq ?_;rw[add64 hA (by omega) (by omega)];exact ih (i+1) (I+1) h9 (by omega) (by omega) (by omega) x9
theorem sameInts_true{h:AHeap}(hlow:h.low<=h.next){n c c':Nat}{a a':Option Addr}{l:List Int}(p:Rows nC 1 h a n l)(q:Rows nC 1 h a' n l)(hn:n<=1000){Q:Value->AHeap->Prop}(hQ:∀h',Ext h h'->Q (.bool true) h'):call 14 [.slice a n c,.slice a' n c'] h Q:=by
 obtain⟨N,eN⟩:∃z:Int,z=n:=⟨_,rfl⟩;have e0:ofNat n=N:=by rw[eN];exact e_ofNat hA n
 refine hA.bodyR Try.func14 r14_ok (hA.alike _ _ _ rfl) hlow (zc ?_)
 (refine zq ?_;repeat ((first|rw[e0]);refine zq ?_))
 refine br (N≠N) (by rw[e_neq hA]) (fun q=>absurd rfl q) (fun _=>?_)<;>refine zc ?_;refine zq ?_;refine si_loop hA hlow p q hn eN (fun h' x=>?_) n 0 0 h (by omega) (by omega) rfl (.refl h);refine zq ?_;exact hQ h' x
theorem sl_loop{h0 h1 h2:AHeap}(hl0:h0.low<=h0.next){s w c c':Nat}{a a':Option Addr}{rb rb':Nat->Nat}{E:Nat->Ext.Vec}(p:Grd h1 h0 s w a c rb E)(q:Grd h2 h0 s w a' c' rb' E)(hn:s<=1000)(hw:w<=1000){N:Int}(eN:N=s){Q:Exit->SS->Prop}
  (hQ:∀h',Ext h0 h'->Q (.exit 0) ⟨[],0,[],h'⟩) :
  ∀(d i:Nat) (I:Int) (h:AHeap),s-i<=d->i<=s->I=i->Ext h0 h->
   head 15 4 0 ⟨[(0,.slice a s c),(1,.slice a' s c'),(5,.int .i64 I)],0,[],h⟩ Q:=by
 intro d;have e0:ofNat s=N:=by rw[eN];exact e_ofNat hA s
 induction d with
 |zero=>
  intro i I h hd hi eI x;refine hA.roundR Try.func15 r15_ok (zc ?_)
  (refine zq ?_;repeat ((first|rw[e0]);refine zq ?_))
  refine br (I<N) (by rw[e_lss hA]) (fun q=>by omega) (fun _=>?_)<;>refine zc ?_;exact hQ h x
 |succ d ih=>
 intro i I h hd hi eI x;by_cases ci:i<s
 rotate_left
 ·refine hA.roundR Try.func15 r15_ok (zc ?_)
  (refine zq ?_;repeat ((first|rw[e0]);refine zq ?_))
  refine br (I<N) (by rw[e_lss hA]) (fun q=>by omega) (fun _=>?_)<;>refine zc ?_;exact hQ h x
 have hlow:h.low<=h.next:=x.lowOK hl0;obtain⟨h9,eh9⟩:∃z,z=bump h 10:=⟨_,rfl⟩;have xb:Ext h h9:=by rw[eh9];exact ext_bump hA _ _
 have x9:Ext h0 h9:=x.trans xb;have p9:=p.more x9;have q9:=q.more x9;obtain⟨b,rfl,_,q1⟩:=p9.head ci;obtain⟨b',rfl,_,q2⟩:=q9.head ci;obtain⟨cw,ecw⟩:∃z,z=someCap 1 w:=⟨_,rfl⟩;rw[<-ecw]at q1 q2;have r1:rd h9 b (place 0 I 1) 1 [.slice (some ⟨rb i,0,none⟩) w cw]:=rd_ok hA (by rw[eI];exact q1);have r2:rd h9 b' (place 0 I 1) 1 [.slice (some ⟨rb' i,0,none⟩) w cw]:=rd_ok hA (by rw[eI];exact q2);refine hA.roundR Try.func15 r15_ok (zc ?_)
 (refine zq ?_;repeat ((first|rw[e0]);refine zq ?_))
 refine br (I<N) (by rw[e_lss hA]) (fun _=>?_) (fun q=>by omega)<;>refine zc ?_;rw[<-eh9];refine zq ?_;refine sameInts_true hA (low_fresh hA h9) (p9.rows.rowR ci |>.ext (ext_fresh hA h9)) (q9.rows.rowR ci |>.ext (ext_fresh hA h9)) hw (fun h' x'=>⟨_,rfl,?_⟩);obtain⟨h8,eh8⟩:∃z,z=lowered h9 h':=⟨_,rfl⟩;have x8:Ext h0 h8:=by rw[eh8];exact x9.trans (ext_low hA (x9.lowOK hl0) (.refl h9) x')
 refine zq ?_;rw[show bnot true=false by rw[e_bnot hA];rfl];refine zq ?_;rw[add64 hA (by omega) (by omega)];rw[<-eh8];exact ih (i+1) (I+1) h8 (by omega) (by omega) (by omega) x8
theorem sameLists_true{h h1 h2:AHeap}(hlow:h.low<=h.next){s w c c':Nat}{a a':Option Addr}{rb rb':Nat->Nat}{E:Nat->Ext.Vec}(p:Grd h1 h s w a c rb E)(q:Grd h2 h s w a' c' rb' E)(hn:s<=1000)(hw:w<=1000){Q:Value->AHeap->Prop}(hQ:∀h',Ext h h'->Q (.bool true) h'):call 15 [.slice a s c,.slice a' s c'] h Q:=by
 obtain⟨N,eN⟩:∃z:Int,z=s:=⟨_,rfl⟩;have e0:ofNat s=N:=by rw[eN];exact e_ofNat hA s
 refine hA.bodyR Try.func15 r15_ok (hA.alike _ _ _ rfl) hlow (zc ?_)
 (refine zq ?_;repeat ((first|rw[e0]);refine zq ?_))
 refine br (N≠N) (by rw[e_neq hA]) (fun q=>absurd rfl q) (fun _=>?_)<;>refine zc ?_;refine zq ?_;refine sl_loop hA hlow p q hn hw eN (fun h' x=>?_) s 0 0 h (by omega) (by omega) rfl (.refl h);refine zq ?_;exact hQ h' x
end Go.Proofs.Ytdpbiegfljmhmaa
namespace Go.Proofs.Ytdpbiegfljmhmaa
open Go.Sim
set_option maxRecDepth 100000
variable{F:Prims}{call head arith cmp scmp bnot bsame conv neg imax imin ofNat slen place inR nz geZ rd wr push next mkOK nat zeros sadd eqAgg cut slc sslc strAt part app cpy putAt fresh lowered bump wrote addN lt ne fpAll fpApp brk yn rng mget mput mnew bytes clr:_}(hA:AP F ⟨call,head,arith,cmp,scmp,bnot,bsame,conv,neg,imax,imin,ofNat,slen,place,inR,nz,geZ,rd,wr,push,next,mkOK,nat,zeros,sadd,eqAgg,cut,slc,sslc,strAt,part,app,cpy,putAt,fresh,lowered,bump,wrote,addN,lt,ne,fpAll,fpApp,brk,yn,rng,mget,mput,mnew,bytes,clr⟩)
include hA
theorem great_rows{h:AHeap}{m ac k bc:Nat}{aa ba:Option Addr}{hds:List Hd}{g:List (List Int)}(hg:GrN nC 1 h aa m hds g)(hm:m<=9223372036854775807){Q:Exit->SS->Prop}
  (hret:(∃i:Int,0<=i/\i<m/\40<(gt g i).length)->∀env,Q .ret ⟨(2,.bool true) :: env,1,[(0,[.slice aa m ac,.slice ba k bc])],h⟩)
  (hend:(∀i:Int,0<=i->i<m->(gt g i).length<=40)->Q (.exit 0) ⟨[(1,.pointer (some ⟨0,0,some 0⟩))],1,[(0,[.slice aa m ac,.slice ba k bc])],h⟩) :
  ∀(d i:Nat) (I:Int),m-i<=d->i<=m->I=i->(∀j:Int,0<=j->j<i->(gt g j).length<=40)->
   head 7 2 1 ⟨[(1,.pointer (some ⟨0,0,some 0⟩)),(3,.int .i64 I)],1,[(0,[.slice aa m ac,.slice ba k bc])],h⟩ Q:=by
 intro d;obtain⟨M,eM⟩:∃z:Int,z=m:=⟨_,rfl⟩;have e0:ofNat m=M:=by rw[eM];exact e_ofNat hA m
 induction d with
 |zero=>
  intro i I hd hi eI hp;refine hA.roundR Try.func7 r7_ok (zc ?_)
  (refine zq ?_;repeat ((first|rw[e0]);refine zq ?_))
  refine br (I<M) (by rw[e_lss hA]) (fun q=>by omega) (fun _=>?_)<;>refine zc ?_;exact hend (fun j j0 j1=>hp j j0 (by omega))
 |succ d ih=>
 intro i I hd hi eI hp;by_cases ci:i<m
 rotate_left
 ·refine hA.roundR Try.func7 r7_ok (zc ?_)
  (refine zq ?_;repeat ((first|rw[e0]);refine zq ?_))
  refine br (I<M) (by rw[e_lss hA]) (fun q=>by omega) (fun _=>?_)<;>refine zc ?_;exact hend (fun j j0 j1=>hp j j0 (by omega))
 obtain⟨b,o,rfl,hb,q1⟩:=hg.hdAt (i:=I) (by omega) (by omega);obtain⟨ra,era⟩:∃z,z=(gt hds I).a:=⟨_,rfl⟩;obtain⟨rn,ern⟩:∃z,z=(gt hds I).n:=⟨_,rfl⟩;obtain⟨rc,erc⟩:∃z,z=(gt hds I).c:=⟨_,rfl⟩;rw[<-era,<-ern,<-erc]at q1;have r1:rd h b (place o I 1) 1 [.slice ra rn rc]:=rd_ok hA q1;have hrl:(gt g I).length=rn:=by rw[ern];exact hg.rowN (by omega) (by omega)
 obtain⟨R,eR⟩:∃z:Int,z=rn:=⟨_,rfl⟩;have e1:ofNat rn=R:=by rw[eR];exact e_ofNat hA rn
 refine hA.roundR Try.func7 r7_ok (zc ?_)
 (refine zq ?_;repeat ((first|rw[e0]);refine zq ?_))
 refine br (I<M) (by rw[e_lss hA]) (fun _=>?_) (fun q=>by omega)<;>refine zc ?_
 (refine zq ?_;repeat ((first|rw[e1]);refine zq ?_))
 refine br (40<R) (by rw[e_gtr hA]) (fun c4=>?_) (fun c4=>?_)<;>refine zc ?_
 ·refine zq ?_
  exact hret ⟨I,by omega,by omega,by omega⟩ _
 refine zq ?_;rw[add64 hA (by omega) (by omega)];exact ih (i+1) (I+1) (by omega) (by omega) (by omega) (fun j j0 j1=>by
  by_cases e:j=I
  ·rw[e];omega
  ·exact hp j j0 (by omega))
theorem Great_ok{h:AHeap}(hlow:h.low<=h.next){m ac k bc:Nat}{aa ba:Option Addr}{hds:List Hd}{g:List (List Int)}(hg:GrN nC 1 h aa m hds g)(hm:m<=9223372036854775807){Q:Value->AHeap->Prop}
  (hQ:∀r:Bool,(r=false->m<=40/\k<=40/\∀i:Int,0<=i->i<m->(gt g i).length<=40)->Q (.bool r) h):call 7 [.agg #[.slice aa m ac,.slice ba k bc]] h Q:=by
 obtain⟨M,eM⟩:∃z:Int,z=m:=⟨_,rfl⟩;have e1:ofNat m=M:=by rw[eM];exact e_ofNat hA m
 obtain⟨K,eK⟩:∃z:Int,z=k:=⟨_,rfl⟩;have e2:ofNat k=K:=by rw[eK];exact e_ofNat hA k
 refine hA.bodyR Try.func7 r7_ok (hA.alike _ _ _ rfl) hlow (zc ?_)
 (refine zq ?_;repeat ((first|rw[e1]);refine zq ?_))
 refine great_rows hA hg hm (fun q env=>?_) (fun hr=>?_) m 0 0 (by omega) (by omega) rfl (fun j j0 j1=>by omega)
 ·refine zq ?_
  exact hQ true (fun q=>by cases q)
 (refine zq ?_;repeat ((first|rw[e1]);refine zq ?_))
 refine br (40<M) (by rw[e_gtr hA]) (fun c=>?_) (fun c=>?_)<;>refine zc ?_
 ·refine zq ?_
  exact hQ true (fun q=>by cases q)
 (refine zq ?_;repeat ((first|rw[e2]);refine zq ?_))
 rw[e_gtr hA];exact hQ _ (fun q=>⟨by omega,by have:=of_decide_eq_false q;omega,hr⟩)
