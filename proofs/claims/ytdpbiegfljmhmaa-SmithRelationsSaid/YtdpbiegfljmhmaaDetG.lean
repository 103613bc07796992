import Derived.Test.YtdpbiegfljmhmaaSmW
import Derived.Test.YtdpbiegfljmhmaaSmU
import Derived.Test.YtdpbiegfljmhmaaDetF
set_option linter.unusedSimpArgs false
set_option linter.unusedVariables false
namespace Go.Proofs.Ytdpbiegfljmhmaa
open Go.Sim
set_option maxRecDepth 100000
structure Mat(g:List (List Int))(m n:Nat):Prop where
 m1:1<=m
 m4:m<=4
 n1:1<=n
 n4:n<=4
 len:g.length=m
 row:∀i:Int,0<=i->i<m->(gt g i).length=n
 nine:∀i j,(gt (gt g i) j).natAbs<=9
theorem gt_over{α:Type}[Inhabited α](l:List α){i:Int}(h:¬(0<=i/\i<l.length))(h0:0<=i):gt l i=default:=by
 unfold gt;rw[List.getD_eq_getElem?_getD,List.getElem?_eq_none (by omega)];rfl
theorem Good.mat{g:List (List Int)}{B:List Fc}(h:Good g B)(hm:¬Many g):∃m n,Mat g m n:=by
 have m1:=h.m1;have n1:=h.n1;have m4:g.length<=4:=Nat.le_of_not_lt (fun q=>hm (.inl q));have n4:(gt g 0).length<=4:=Nat.le_of_not_lt (fun q=>hm (.inr ⟨0,by omega,by omega,q⟩));refine⟨g.length,(gt g 0).length,m1,m4,n1,n4,rfl,h.row,fun i j=>?_⟩;have neg:∀{α:Type} [Inhabited α] (l:List α) (i:Int),i<0->gt l i=gt l 0:=fun l i q=>by unfold gt;rw[show i.toNat=0 by omega];rfl
 have key:∀i j:Int,0<=i->0<=j->(gt (gt g i) j).natAbs<=9:=fun i j i0 j0=>by
  by_cases ci:i<g.length
  ·by_cases cj:j<(gt g i).length
   ·have:=h.coef i i0 ci j j0 cj;omega
   ·rw[gt_over _ (by omega) j0];decide
  ·rw[gt_over g (by omega) i0]
   show(gt ([]:List Int) j).natAbs<=9;rw[gt_over ([]:List Int) (fun q=>by have:=q.2;simp at this;omega) j0];decide
 by_cases ci:0<=i
 ·by_cases cj:0<=j
  ·exact key i j ci cj
  ·rw[neg _ j (by omega)];exact key i 0 ci (by omega)
 ·rw[neg _ i (by omega)]
  by_cases cj:0<=j
  ·exact key 0 j (by omega) cj
  ·rw[neg _ j (by omega)];exact key 0 0 (by omega) (by omega)
structure StepsOf(g:List (List Int))(m n r s:Nat)(A:Nat->Ext.Vec):Prop where
 hnf:Ext.Hnf (n+m) m A
 lat:Ext.Lat (n+m) m A (joinM g n)
 sum:r+s=m
 lo:∀y,y<r->Ext.leadV (n+m) (A y)<n
 hi:∀y,r<=y->y<m->n<=Ext.leadV (n+m) (A y)
variable{F:Prims}{call head arith cmp scmp bnot bsame conv neg imax imin ofNat slen place inR nz geZ rd wr push next mkOK nat zeros sadd eqAgg cut slc sslc strAt part app cpy putAt fresh lowered bump wrote addN lt ne fpAll fpApp brk yn rng mget mput mnew bytes clr:_}(hA:AP F ⟨call,head,arith,cmp,scmp,bnot,bsame,conv,neg,imax,imin,ofNat,slen,place,inR,nz,geZ,rd,wr,push,next,mkOK,nat,zeros,sadd,eqAgg,cut,slc,sslc,strAt,part,app,cpy,putAt,fresh,lowered,bump,wrote,addN,lt,ne,fpAll,fpApp,brk,yn,rng,mget,mput,mnew,bytes,clr⟩)
include hA
theorem steps_ok(hI:InsC F){h:AHeap}(hlow:h.low<=h.next){m n ac:Nat}{aa:Option Addr}{hds:List Hd}{g:List (List Int)}(hM:Mat g m n)(hg:GrR nC 1 h aa m hds g){Q:Value->AHeap->Prop}
  (hQ:∀h' r s pa pc qa qc bs rb A,StepsOf g m n r s A->RowsB h h' m (n+m) bs A->Hds h h' r (n+m) pa pc bs->Grd h h' s m qa qc rb (fun y j=>A (r+y) (n+j))->(∀ad,pa=some ad->∀y,y<m->ad.block≠bs y)->Q (.tuple #[.slice pa r pc,.slice qa s qc]) h') :
  call 29 [.slice aa m ac] h Q:=
 parted_ok hA hI hlow rfl hM.n1 hM.n4 hM.m1 hM.m4 hg (fun y y0 y1=>by rw[<-hg.rowN y0 y1];exact hM.row y y0 y1) hM.nine
  (fun h' r s pa pc qa qc bs rb A a1 a2 a3 a4 a5 a6 a7 a8 a9=>hQ h' r s pa pc qa qc bs rb A ⟨a1,a2,a3,a4,a5⟩ a6 a7 a8 a9)
theorem Relations_ok(hI:InsC F){h:AHeap}(hlow:h.low<=h.next){m ac k bc:Nat}{aa ba:Option Addr}{hds:List Hd}{g:List (List Int)}{B:List Fc}(hg:GrN nC 1 h aa m hds g)(hB:Rows fC 2 h ba k B)(hi:∀i:Int,0<=i->i<k->i64 (gt B i).n/\i64 (gt B i).d){Q:Value->AHeap->Prop}
  (hQ0:∀e h',ChkIs g B e->e≠0->Ext h h'->Q (.tuple #[.slice none 0 0,.int .i64 e]) h')
  (hQ1:∀h0 h' n r s qa qc rb A,ChkIs g B 0->Mat g m n->Ext h h0->StepsOf g m n r s A->Grd h0 h' s m qa qc rb (fun y j=>A (r+y) (n+j))->Q (.tuple #[.slice qa s qc,.int .i64 0]) h'):call 10 [.agg #[.slice aa m ac,.slice ba k bc]] h Q:=by
 refine hA.bodyR Try.func10 r10_ok (hA.alike _ _ _ rfl) hlow (zc ?_);refine Check_ok hA hlow hg hB hi (fun e h1 he x1=>⟨e,rfl,?_⟩);refine zq ?_;refine br (e≠0) (by rw[e_neq hA]) (fun c=>?_) (fun c=>?_)<;>refine zc ?_
 ·refine zq ?_
  exact hQ0 e h1 he c x1
 obtain rfl:e=0:=by omega
 obtain⟨gd,nm⟩:=he.good;obtain⟨m',n,hM⟩:=gd.mat nm;obtain rfl:m=m':=by have:=hg.len;have:=hM.len;omega
 have hgf:=hg.full (fun y y0 y1=>by rw[hM.row y y0 y1];exact hM.n1);refine zq ?_;refine steps_ok hA hI (x1.lowOK hlow) hM (hgf.ext x1) (fun h' r s pa pc qa qc bs rb A a1 a2 a3 a4 a5=>⟨_,_,_,_,_,_,rfl,?_⟩);refine zq ?_;exact hQ1 h1 h' n r s qa qc rb A he hM x1 a1 a4
end Go.Proofs.Ytdpbiegfljmhmaa
namespace Go.Proofs.Ytdpbiegfljmhmaa
open Go.Sim
set_option maxRecDepth 100000
structure PaI(g:List (List Int))(n R C i j:Nat)(M:Nat->Nat->Int):Prop where
 up:∀r c,r<(Ext.bl i R).length->c<(Ext.bl n C).length->M r c=Ext.el g (gt (Ext.bl i R) (r:Int)) (gt (Ext.bl n C) (c:Int))
 cur:∀c,c<(Ext.bl j C).length->M (Ext.bl i R).length c=Ext.el g i (gt (Ext.bl j C) (c:Int))
theorem PaI.skip{g:List (List Int)}{n R C i j:Nat}{M:Nat->Nat->Int}(t:PaI g n R C i j M)(h:C.testBit j=false):PaI g n R C i (j+1) M:=by
 refine⟨t.up,fun c hc=>?_⟩;rw[Ext.bl_succ,if_neg (by rw[h];decide)]at hc ⊢;exact t.cur c hc
theorem PaI.put{g:List (List Int)}{n R C i j:Nat}{M:Nat->Nat->Int}(t:PaI g n R C i j M)(h:C.testBit j=true):PaI g n R C i (j+1) (updV M (Ext.bl i R).length (Ext.bl j C).length (Ext.el g i j)):=by
 refine⟨fun r c hr hc=>?_,fun c hc=>?_⟩
 ·unfold updV;rw[if_neg (by omega)];exact t.up r c hr hc
 ·rw[Ext.bl_succ,if_pos h]at hc ⊢
  rw[List.length_append,List.length_singleton]at hc;rw[Ext.gt_snoc _ _ (by omega)];unfold updV;by_cases e:c<(Ext.bl j C).length
  ·rw[if_neg (by omega),if_pos e];exact t.cur c e
  ·rw[if_pos (by omega),if_neg e]
theorem PaI.next{g:List (List Int)}{n R C i:Nat}{M:Nat->Nat->Int}(t:PaI g n R C i n M)(h:R.testBit i=true):PaI g n R C (i+1) 0 M:=by
 refine⟨fun r c hr hc=>?_,fun c hc=>absurd hc (by show ¬c<0;omega)⟩;rw[Ext.bl_succ,if_pos h]at hr ⊢;rw[List.length_append,List.length_singleton]at hr;rw[Ext.gt_snoc _ _ (by omega)];by_cases e:r<(Ext.bl i R).length
 ·rw[if_pos e];exact t.up r c e hc
 ·rw[if_neg e,show r=(Ext.bl i R).length by omega];exact t.cur c hc
theorem PaI.miss{g:List (List Int)}{n R C i:Nat}{M:Nat->Nat->Int}(t:PaI g n R C i 0 M)(h:R.testBit i=false):PaI g n R C (i+1) 0 M:=by
 refine⟨fun r c hr hc=>?_,fun c hc=>absurd hc (by show ¬c<0;omega)⟩;rw[Ext.bl_succ,if_neg (by rw[h];decide)]at hr ⊢;exact t.up r c hr hc
variable{F:Prims}{call head arith cmp scmp bnot bsame conv neg imax imin ofNat slen place inR nz geZ rd wr push next mkOK nat zeros sadd eqAgg cut slc sslc strAt part app cpy putAt fresh lowered bump wrote addN lt ne fpAll fpApp brk yn rng mget mput mnew bytes clr:_}(hA:AP F ⟨call,head,arith,cmp,scmp,bnot,bsame,conv,neg,imax,imin,ofNat,slen,place,inR,nz,geZ,rd,wr,push,next,mkOK,nat,zeros,sadd,eqAgg,cut,slc,sslc,strAt,part,app,cpy,putAt,fresh,lowered,bump,wrote,addN,lt,ne,fpAll,fpApp,brk,yn,rng,mget,mput,mnew,bytes,clr⟩)
include hA
theorem bit_ok{x i:Nat}{X I:Int}(eX:X=x)(eI:I=i)(hx:x<16)(hi:i<4):arith .and .i64 (arith .shr .i64 X I) 1=if x.testBit i then 1 else 0:=by
 rw[e_and hA,e_shr hA,eX,eI];have h1:x=0\/x=1\/x=2\/x=3\/x=4\/x=5\/x=6\/x=7\/x=8\/x=9\/x=10\/x=11\/x=12\/x=13\/x=14\/x=15:=by omega
 have h2:i=0\/i=1\/i=2\/i=3:=by omega
 rcases h1 with rfl|rfl|rfl|rfl|rfl|rfl|rfl|rfl|rfl|rfl|rfl|rfl|rfl|rfl|rfl|rfl<;>rcases h2 with rfl|rfl|rfl|rfl<;>rfl
theorem pa_in{h0 h1:AHeap}(hl0:h0.low<=h0.next){m n ac b s R C i:Nat}{aa:Option Addr}{hds:List Hd}{g:List (List Int)}(hM:Mat g m n)(hg:GrR nC 1 h0 aa m hds g){RI CI S MI I N:Int}(eS:S=s)(eR:RI=R)(eC:CI=C)(eI:I=i)(eN:N=n)(es:s=(Ext.bl i R).length)(hi:i<m)(hC:C<16){rc:Nat}{ra:Option Addr}(era:ra=(gt hds I).a){Q:Exit->SS->Prop}
  (hQ:∀(h':AHeap) (P:Nat->Nat->Int) (kn:Nat) (T:List (Nat×List Value)),Sq h0 h' b s P->PaI g n R C i n P->Q (.exit 2) ⟨[(0,.slice aa m ac),(1,.int .i64 RI),(2,.int .i64 CI),(7,.pointer (some ⟨b,0,none⟩)),(15,.int .i64 MI),(16,.int .i64 I)],kn,T,h'⟩) :
  ∀(d j k:Nat) (J K:Int) (h:AHeap) (P:Nat->Nat->Int),n-j<=d->j<=n->J=j->k=(Ext.bl j C).length->K=k->Sq h0 h b s P->PaI g n R C i j P->
   head 80 8 0 ⟨[(0,.slice aa m ac),(1,.int .i64 RI),(2,.int .i64 CI),(7,.pointer (some ⟨b,0,none⟩)),(9,.int .i64 K),(15,.int .i64 MI),(16,.int .i64 I),(27,.slice ra n rc),(28,.int .i64 N),(29,.int .i64 J)],0,[],h⟩ Q:=by
 intro d;have m4:=hM.m4;have n4:=hM.n4
 induction d with
 |zero=>
  intro j k J K h P hd hj eJ ek eK t p;refine hA.roundR Try.func80 r80_ok (zc ?_);refine br (J<N) (by rw[e_lss hA]) (fun q=>by omega) (fun _=>?_)<;>refine zc ?_;obtain rfl:j=n:=by omega
  exact hQ h P _ _ t p
 |succ d ih=>
 intro j k J K h P hd hj eJ ek eK t p;by_cases cj:j<n
 rotate_left
 ·refine hA.roundR Try.func80 r80_ok (zc ?_)
  refine br (J<N) (by rw[e_lss hA]) (fun q=>by omega) (fun _=>?_)<;>refine zc ?_;obtain rfl:j=n:=by omega
  exact hQ h P _ _ t p
 have gh:=hg.ext t.ext;have row:=gh.row I (by omega) (by omega);rw[<-era]at row;have hln:(gt g I).length=n:=hM.row I (by omega) (by omega);have hn2:=row.len;rw[hln]at hn2;rw[<-hn2]at row;obtain⟨b2,o2,eb2,_,w⟩:=row.at (i:=J) (by omega) (by omega);obtain⟨v,ev⟩:∃z,z=gt (gt g I) J:=⟨_,rfl⟩;have q1:=w 0 1 (by omega) (by omega);rw[<-ev]at q1;cases ra with
 |none=>cases eb2
 |some ad=>
 cases eb2;have r1:rd h b2 (place o2 J 1) 1 [.int .i64 v]:=rd_ok hA q1;obtain⟨B,eB⟩:∃z:Int,z=if C.testBit j then 1 else 0:=⟨_,rfl⟩
 have m1:=bit_ok hA eC eJ hC (show j<4 by omega);rw[<-eB]at m1;have kl:=Ext.bl_le j C;have sl:=Ext.bl_le i R;refine hA.roundR Try.func80 r80_ok (zc ?_);refine br (J<N) (by rw[e_lss hA]) (fun _=>?_) (fun q=>by omega)<;>refine zc ?_
 (refine zq ?_;repeat ((first|rw[m1]);refine zq ?_))
 refine br (B=1) (by rw[e_eql hA]) (fun c=>?_) (fun c=>?_)<;>refine zc ?_
 ·have tb:C.testBit j=true:=by
   cases h:C.testBit j with
   |true=>rfl
   |false=>rw[h]at eB;simp at eB;omega
  obtain⟨h9,eh9⟩:∃z,z=bump h 12:=⟨_,rfl⟩;have t9:=t.more (show Ext h h9 by rw[eh9];exact ext_bump hA _ _);have r2:=sq_size hA t9 eS;obtain⟨h2,w1,t2,_⟩:=sq_set hA t9 (i:=s) (j:=k) (by omega) (by omega) eS eK (v:=v);rw[<-eh9];refine zq ?_;rw[add64 hA (by omega) (by omega),add64 hA (by omega) (by omega)];refine ih (j+1) (k+1) (J+1) (K+1) h2 _ (by omega) (by omega) (by omega) (by rw[Ext.bl_succ,if_pos tb,List.length_append,ek];rfl) (by omega) t2 ?_;have:=p.put tb;rw[<-es,<-ek,show Ext.el g i j=v by rw[ev,eI,eJ];rfl]at this;exact this
 ·have tb:C.testBit j=false:=by
   cases h:C.testBit j with
   |false=>rfl
   |true=>rw[h]at eB;simp at eB;omega
  refine zq ?_;rw[add64 hA (by omega) (by omega)];exact ih (j+1) k (J+1) K h P (by omega) (by omega) (by omega) (by rw[Ext.bl_succ,if_neg (by rw[tb];decide),ek]) eK t (p.skip tb)
theorem pa_out{h0:AHeap}(hl0:h0.low<=h0.next){m n ac b R C:Nat}{aa:Option Addr}{hds:List Hd}{g:List (List Int)}(hM:Mat g m n)(hg:GrR nC 1 h0 aa m hds g){RI CI M:Int}(eR:RI=R)(eC:CI=C)(eM:M=m)(hR:R<16)(hC:C<16){Q:Exit->SS->Prop}
  (hQ:∀(h':AHeap) (P:Nat->Nat->Int) (kn:Nat) (T:List (Nat×List Value)),Sq h0 h' b (Ext.bl m R).length P->PaI g n R C m 0 P->Q (.exit 0) ⟨[(7,.pointer (some ⟨b,0,none⟩))],kn,T,h'⟩) :
  ∀(d i s:Nat) (I:Int) (h:AHeap) (P:Nat->Nat->Int),m-i<=d->i<=m->I=i->s=(Ext.bl i R).length->Sq h0 h b s P->PaI g n R C i 0 P->
   head 80 3 0 ⟨[(0,.slice aa m ac),(1,.int .i64 RI),(2,.int .i64 CI),(7,.pointer (some ⟨b,0,none⟩)),(15,.int .i64 M),(16,.int .i64 I)],0,[],h⟩ Q:=by
 intro d;have m4:=hM.m4;have n4:=hM.n4
 induction d with
 |zero=>
  intro i s I h P hd hi eI es t p;refine hA.roundR Try.func80 r80_ok (zc ?_);refine br (I<M) (by rw[e_lss hA]) (fun q=>by omega) (fun _=>?_)<;>refine zc ?_;obtain rfl:i=m:=by omega
  exact hQ h P _ _ (es ▸ t) p
 |succ d ih=>
 intro i s I h P hd hi eI es t p;by_cases ci:i<m
 rotate_left
 ·refine hA.roundR Try.func80 r80_ok (zc ?_)
  refine br (I<M) (by rw[e_lss hA]) (fun q=>by omega) (fun _=>?_)<;>refine zc ?_;obtain rfl:i=m:=by omega
  exact hQ h P _ _ (es ▸ t) p
 obtain⟨B,eB⟩:∃z:Int,z=if R.testBit i then 1 else 0:=⟨_,rfl⟩
 have m1:=bit_ok hA eR eI hR (show i<4 by omega);rw[<-eB]at m1;obtain⟨S,eS⟩:∃z:Int,z=s:=⟨_,rfl⟩;obtain⟨N,eN⟩:∃z:Int,z=n:=⟨_,rfl⟩;have sl:=Ext.bl_le i R;obtain⟨ab,ao,rfl,hab,q1⟩:=(hg.ext t.ext).hdAt (i:=I) (by omega) (by omega);have row:=hg.row I (by omega) (by omega);have hln:(gt g I).length=n:=hM.row I (by omega) (by omega);have hn2:=row.len;rw[hln]at hn2;rw[<-hn2]at q1;obtain⟨ra,era⟩:∃z,z=(gt hds I).a:=⟨_,rfl⟩;obtain⟨rc,erc⟩:∃z,z=(gt hds I).c:=⟨_,rfl⟩;rw[<-era,<-erc]at q1;have r1:rd h ab (place ao I 1) 1 [.slice ra n rc]:=rd_ok hA q1;have e0:ofNat n=N:=by rw[eN];exact e_ofNat hA n
 refine hA.roundR Try.func80 r80_ok (zc ?_);refine br (I<M) (by rw[e_lss hA]) (fun _=>?_) (fun q=>by omega)<;>refine zc ?_
 (refine zq ?_;repeat ((first|rw[m1]);refine zq ?_))
 refine br (B=0) (by rw[e_eql hA]) (fun c=>?_) (fun c=>?_)<;>refine zc ?_
 ·have tb:R.testBit i=false:=by
   cases h:R.testBit i with
   |false=>rfl
   |true=>rw[h]at eB;simp at eB;omega
  refine zq ?_;rw[add64 hA (by omega) (by omega)];exact ih (i+1) s (I+1) h P (by omega) (by omega) (by omega) (by rw[Ext.bl_succ,if_neg (by rw[tb];decide),es]) t (p.miss tb)
 ·have tb:R.testBit i=true:=by
   cases h:R.testBit i with
   |true=>rfl
   |false=>rw[h]at eB;simp at eB;omega
  (refine zq ?_;repeat ((first|rw[e0]);refine zq ?_))
  refine pa_in hA (h1:=h) hl0 hM hg eS eR eC eI eN es ci hC era (fun h' P' kn T t' p'=>?_) n 0 0 0 0 h P (by omega) (by omega) rfl rfl rfl t p;have r2:=sq_size hA t' eS;obtain⟨h2,w1,t2,_⟩:=t'.grow (S:=S+1) (by omega);have w1:wr h' b (addN 0 0) [.int .i64 (S+1)] h2:=wr_fld0 hA w1;refine zq ?_;rw[add64 hA (by omega) (by omega)];refine zq ?_;rw[add64 hA (by omega) (by omega)];exact ih (i+1) (s+1) (I+1) h2 P' (by omega) (by omega) (by omega) (by rw[Ext.bl_succ,if_pos tb,List.length_append,es];rfl) t2 (p'.next tb)
theorem part_ok{h:AHeap}(hlow:h.low<=h.next){m n ac R C:Nat}{aa:Option Addr}{hds:List Hd}{g:List (List Int)}(hM:Mat g m n)(hg:GrR nC 1 h aa m hds g){RI CI:Int}(eR:RI=R)(eC:CI=C)(hR:R<16)(hC:C<16){Q:Value->AHeap->Prop}
  (hQ:∀b h' P,Sq h h' b (Ext.bl m R).length P->(∀r c,r<(Ext.bl m R).length->c<(Ext.bl n C).length->P r c=Ext.el g (gt (Ext.bl m R) (r:Int)) (gt (Ext.bl n C) (c:Int)))->Q (.pointer (some ⟨b,0,none⟩)) h') :
  call 80 [.slice aa m ac,.int .i64 RI,.int .i64 CI] h Q:=by
 obtain⟨M,eM⟩:∃z:Int,z=m:=⟨_,rfl⟩;have e1:ofNat m=M:=by rw[eM];exact e_ofNat hA m
 refine hA.bodyR Try.func80 r80_ok (hA.alike _ _ _ rfl) hlow (zc ?_)
 (refine zq ?_;repeat ((first|rw[e1]);refine zq ?_))
 rw[e_push hA,e_next hA];refine pa_out hA hlow hM hg eR eC eM hR hC (fun h' P kn T t p=>?_) m 0 0 0 _ (fun _ _=>0) (by omega) (by omega) rfl rfl (Sq.new h) ⟨fun r c hr=>absurd hr (by show ¬r<0;omega),fun c hc=>absurd hc (by show ¬c<0;omega)⟩;refine zq ?_;exact hQ h.next h' P t p.up
