import Derived.Test.YtdpbiegfljmhmaaFqF
import Derived.Test.YtdpbiegfljmhmaaFqB
set_option linter.unusedSimpArgs false
set_option linter.unusedVariables false
namespace Go.Proofs.Ytdpbiegfljmhmaa
open Go.Sim
set_option maxRecDepth 100000
structure LRc(hz h:AHeap)(g:List (List Int))(B:List Fc)(m n s:Nat)(aa ba qa:Option Addr)(qc:Nat)(hds:List Hd)(rb:Nat->Nat)(G:Nat->Ext.Vec)(W:Int):Prop where
 hM:Mat g m n
 hg:GrR nC 1 h aa m hds g
 hB:Rows fC 2 h ba m B
 gd:Grd hz h s m qa qc rb G
 hf:Ext.Hnf m s G
 rel:∀i,i<s->IsRel g m n (G i)
 sm:∀i,i<s->∀j,(G i j).natAbs<=629856
 ht:∀i:Int,0<=i->i<m->turnF (gt B i)/\(gt B i).d<=60
 w:Whl B m W
 sm4:s<=m
theorem LRc.more{hz h h':AHeap}{g:List (List Int)}{B:List Fc}{m n s:Nat}{aa ba qa:Option Addr}{qc:Nat}{hds:List Hd}{rb:Nat->Nat}{G:Nat->Ext.Vec}{W:Int}(t:LRc hz h g B m n s aa ba qa qc hds rb G W)(e:Ext h h'):LRc hz h' g B m n s aa ba qa qc hds rb G W:=
 ⟨t.hM,t.hg.ext e,t.hB.ext e,t.gd.more e,t.hf,t.rel,t.sm,t.ht,t.w,t.sm4⟩
variable{F:Prims}{call head arith cmp a0 bnot bsame b0 c0 d0 f0 ofNat g0 place j0 nz k0 rd wr l0 next m0 n0 o0 q0 r0 s0 t0 u0 v0 part w0 x0 z0 a1 lowered bump b1 addN lt ne c1 f1 g1 yn j1 k1 l1 o1 q1 s1:_}(hA:AP F ⟨call,head,arith,cmp,a0,bnot,bsame,b0,c0,d0,f0,ofNat,g0,place,j0,nz,k0,rd,wr,l0,next,m0,n0,o0,q0,r0,s0,t0,u0,v0,part,w0,x0,z0,a1,lowered,bump,b1,addN,lt,ne,c1,f1,g1,yn,j1,k1,l1,o1,q1,s1⟩)
include hA
theorem lr_row{hz h:AHeap}{g:List (List Int)}{B:List Fc}{m n s:Nat}{aa ba qa:Option Addr}{qc:Nat}{hds:List Hd}{rb:Nat->Nat}{G:Nat->Ext.Vec}{W:Int}(t:LRc hz h g B m n s aa ba qa qc hds rb G W){i:Nat}{I:Int}(eI:I=i)(hi:i<s):∃b,qa=some ⟨b,0,none⟩/\b<h.next/\rd h b (place 0 I 1) 1 [.slice (some ⟨rb i,0,none⟩) m (someCap 1 m)]:=by
 obtain⟨b,e,hb,q⟩:=t.gd.head hi;exact⟨b,e,hb,rd_ok hA (by rw[eI];exact q)⟩
theorem lr_el{hz h:AHeap}{g:List (List Int)}{B:List Fc}{m n s:Nat}{aa ba qa:Option Addr}{qc:Nat}{hds:List Hd}{rb:Nat->Nat}{G:Nat->Ext.Vec}{W:Int}(t:LRc hz h g B m n s aa ba qa qc hds rb G W){i j:Nat}{J v:Int}(eJ:J=j)(hi:i<s)(hj:j<m)(ev:v=G i j):rd h (rb i) (place 0 J 1) 1 [.int .i64 v]:=
 rd_ok hA (by rw[eJ,ev];exact t.gd.rows.el hi hj)
theorem lr_lead{hz h:AHeap}{g:List (List Int)}{B:List Fc}{m n s:Nat}{aa ba qa:Option Addr}{qc:Nat}{hds:List Hd}{rb:Nat->Nat}{G:Nat->Ext.Vec}{W:Int}(t:LRc hz h g B m n s aa ba qa qc hds rb G W){i:Nat}(hi:i<s){I last:Int}(eI:I=i){sb wb:Bool}{KN:Nat}{T:List (Nat×List Value)}{Q:Exit->SS->Prop}
  (hQ:∀L:Int,L=(Ext.leadV m (G i):Nat)->Q (.exit 2) ⟨[(1,.pointer (some ⟨0,0,some 0⟩)),(3,.bool true),(4,.slice qa s qc),(8,.bool sb),(10,.bool wb),(11,.int .i64 last),(12,.int .i64 I),(13,.int .i64 L)],KN,T,h⟩) :
  ∀(d j:Nat) (J:Int),m-j<=d->j<=Ext.leadV m (G i)->J=j->
   head 4 16 KN ⟨[(1,.pointer (some ⟨0,0,some 0⟩)),(3,.bool true),(4,.slice qa s qc),(8,.bool sb),(10,.bool wb),(11,.int .i64 last),(12,.int .i64 I),(13,.int .i64 J)],KN,T,h⟩ Q:=by
 intro d;have lt:=t.hf.lt i hi;have m4:=t.hM.m4;have s4:=t.sm4;obtain⟨M,eM⟩:∃z:Int,z=m:=⟨_,rfl⟩;have e0:ofNat m=M:=by rw[eM];exact e_ofNat hA m
 obtain⟨b,rfl,hb,r1⟩:=lr_row hA t eI hi;obtain⟨cw,ecw⟩:∃z,z=someCap 1 m:=⟨_,rfl⟩;rw[<-ecw]at r1
 induction d with
 |zero=>intro j J hd hj eJ;omega
 |succ d ih=>
 intro j J hd hj eJ;obtain⟨v,ev⟩:∃z,z=G i j:=⟨_,rfl⟩;have r2:=lr_el hA t eJ hi (show j<m by omega) ev;refine hA.roundR Try.func4 r4_ok (zc ?_)
 (refine zq ?_;repeat ((first|rw[e0]);refine zq ?_))
 rw[show cmp .lss J M=true by rw[e_lss hA];simp;omega];refine zq ?_;by_cases c:j=Ext.leadV m (G i)
 ·have vn:v≠0:=by rw[ev,c];exact Ext.leadV_ne lt
  rw[show cmp .eql v 0=false by rw[e_eql hA];simp[vn]];refine zq ?_;exact hQ J (by omega)
 ·have vz:v=0:=by rw[ev];exact Ext.leadV_zero (w:=m) (by omega)
  rw[show cmp .eql v 0=true by rw[e_eql hA];simp[vz]];refine zq ?_;rw[add64 hA (by omega) (by omega)];exact ih (j+1) (J+1) (by omega) (by omega) (by omega)
theorem lr_red{hz h0:AHeap}{g:List (List Int)}{B:List Fc}{m n s:Nat}{aa ba qa:Option Addr}{qc:Nat}{hds:List Hd}{rb:Nat->Nat}{G:Nat->Ext.Vec}{W:Int}(t:LRc hz h0 g B m n s aa ba qa qc hds rb G W){i:Nat}(hi:i<s){I L:Int}(eI:I=i)(eL:L=(Ext.leadV m (G i):Nat)){sb wb:Bool}{ac bc:Nat}{Q:Exit->SS->Prop}
  (hQ:∀h',Ext h0 h'->Q (.exit 4) ⟨[(1,.pointer (some ⟨0,0,some 0⟩)),(3,.bool true),(4,.slice qa s qc),(8,.bool sb),(10,.bool wb),(12,.int .i64 I),(13,.int .i64 L)],10,[(0,[.slice aa m ac,.slice ba m bc])],h'⟩) :
  ∀(d k:Nat) (K:Int) (h:AHeap),i-k<=d->k<=i->K=k->Ext h0 h->
   head 4 21 10 ⟨[(1,.pointer (some ⟨0,0,some 0⟩)),(3,.bool true),(4,.slice qa s qc),(8,.bool sb),(10,.bool wb),(12,.int .i64 I),(13,.int .i64 L),(14,.int .i64 K)],10,[(0,[.slice aa m ac,.slice ba m bc])],h⟩ Q:=by
 intro d;have lt:=t.hf.lt i hi;have m4:=t.hM.m4;have s4:=t.sm4
 induction d with
 |zero=>
  intro k K h hd hk eK x;refine hA.roundR Try.func4 r4_ok (zc ?_);refine zq ?_;refine br (K<I) (by rw[e_lss hA]) (fun q=>by omega) (fun _=>?_)<;>refine zc ?_;exact hQ h x
 |succ d ih=>
 intro k K h hd hk eK x;by_cases ck:k<i
 rotate_left
 ·refine hA.roundR Try.func4 r4_ok (zc ?_)
  refine zq ?_;refine br (K<I) (by rw[e_lss hA]) (fun q=>by omega) (fun _=>?_)<;>refine zc ?_;exact hQ h x
 obtain⟨h9,eh9⟩:∃z,z=bump h 25:=⟨_,rfl⟩;have x9:Ext h0 h9:=x.trans (by rw[eh9];exact ext_bump hA _ _);have t9:=t.more x9;obtain⟨b,rfl,hb,r1⟩:=lr_row hA t9 eI hi;obtain⟨b',e',hb',r2⟩:=lr_row hA t9 eK (show k<s by omega);cases e';obtain⟨cw,ecw⟩:∃z,z=someCap 1 m:=⟨_,rfl⟩;rw[<-ecw]at r1 r2;obtain⟨v,ev⟩:∃z,z=G i (Ext.leadV m (G i)):=⟨_,rfl⟩;obtain⟨u,eu⟩:∃z,z=G k (Ext.leadV m (G i)):=⟨_,rfl⟩;have r3:=lr_el hA t9 eL hi lt ev;have r4:=lr_el hA t9 eL (show k<s by omega) lt eu;obtain⟨d1,d2⟩:=t.hf.red k i ck hi;rw[<-eu,<-ev]at d2;rw[<-eu]at d1;refine hA.roundR Try.func4 r4_ok (zc ?_);refine zq ?_;refine br (K<I) (by rw[e_lss hA]) (fun _=>?_) (fun q=>by omega)<;>refine zc ?_;rw[<-eh9];refine zq ?_;rw[show cmp .lss u 0=false by rw[e_lss hA];simp;omega];refine zq ?_;rw[show cmp .geq u v=false by rw[e_geq hA];simp;omega];refine zq ?_;rw[add64 hA (by omega) (by omega)];exact ih (k+1) (K+1) h9 (by omega) (by omega) (by omega) x9
theorem lr_sum{hz h0:AHeap}{g:List (List Int)}{B:List Fc}{m n s:Nat}{aa ba qa:Option Addr}{qc:Nat}{hds:List Hd}{rb:Nat->Nat}{G:Nat->Ext.Vec}{W:Int}(t:LRc hz h0 g B m n s aa ba qa qc hds rb G W){i c:Nat}(hi:i<s)(hc:c<n){I L C:Int}(eI:I=i)(eC:C=c){sb wb:Bool}{ac bc:Nat}{Q:Exit->SS->Prop}
  (hQ:∀h' S,S=Ext.sumN (fun k=>G i k*Ext.el g k c) m->Ext h0 h'->Q (.exit 8) ⟨[(1,.pointer (some ⟨0,0,some 0⟩)),(3,.bool true),(4,.slice qa s qc),(8,.bool sb),(10,.bool wb),(11,.int .i64 L),(12,.int .i64 I),(15,.int .i64 C),(16,.int .i64 S)],10,[(0,[.slice aa m ac,.slice ba m bc])],h'⟩) :
  ∀(d k:Nat) (K S:Int) (h:AHeap),m-k<=d->k<=m->K=k->S=Ext.sumN (fun k=>G i k*Ext.el g k c) k->S.natAbs<=k*5668704->Ext h0 h->
   head 4 31 10 ⟨[(1,.pointer (some ⟨0,0,some 0⟩)),(3,.bool true),(4,.slice qa s qc),(8,.bool sb),(10,.bool wb),(11,.int .i64 L),(12,.int .i64 I),(15,.int .i64 C),(16,.int .i64 S),(17,.int .i64 K)],10,[(0,[.slice aa m ac,.slice ba m bc])],h⟩ Q:=by
 intro d;have m4:=t.hM.m4;have n4:=t.hM.n4;have s4:=t.sm4;obtain⟨M,eM⟩:∃z:Int,z=m:=⟨_,rfl⟩;have e0:ofNat m=M:=by rw[eM];exact e_ofNat hA m
 induction d with
 |zero=>
  intro k K S h hd hk eK eS bS x;refine hA.roundR Try.func4 r4_ok (zc ?_)
  (refine zq ?_;repeat ((first|rw[e0]);refine zq ?_))
  refine br (K<M) (by rw[e_lss hA]) (fun q=>by omega) (fun _=>?_)<;>refine zc ?_;obtain rfl:k=m:=by omega
  exact hQ h S eS x
 |succ d ih=>
 intro k K S h hd hk eK eS bS x;by_cases ck:k<m
 rotate_left
 ·refine hA.roundR Try.func4 r4_ok (zc ?_)
  (refine zq ?_;repeat ((first|rw[e0]);refine zq ?_))
  refine br (K<M) (by rw[e_lss hA]) (fun q=>by omega) (fun _=>?_)<;>refine zc ?_;obtain rfl:k=m:=by omega
  exact hQ h S eS x
 obtain⟨h9,eh9⟩:∃z,z=bump h 19:=⟨_,rfl⟩;have x9:Ext h0 h9:=x.trans (by rw[eh9];exact ext_bump hA _ _);have t9:=t.more x9;obtain⟨b,rfl,hb,r1⟩:=lr_row hA t9 eI hi;obtain⟨cw,ecw⟩:∃z,z=someCap 1 m:=⟨_,rfl⟩;rw[<-ecw]at r1;obtain⟨u,eu⟩:∃z,z=G i k:=⟨_,rfl⟩;have r2:=lr_el hA t9 eK hi ck eu;obtain⟨ab,ao,rfl,hab,w2⟩:=t9.hg.hdAt (i:=K) (by omega) (by omega);have row:=t9.hg.row K (by omega) (by omega);have hln:(gt g K).length=n:=t.hM.row K (by omega) (by omega);have hn2:=row.len;rw[hln]at hn2;rw[<-hn2]at w2 row;obtain⟨xa,exa⟩:∃z,z=(gt hds K).a:=⟨_,rfl⟩;obtain⟨xc,exc⟩:∃z,z=(gt hds K).c:=⟨_,rfl⟩;rw[<-exa,<-exc]at w2;rw[<-exa]at row;have q2:rd h9 ab (place ao K 1) 1 [.slice xa n xc]:=rd_ok hA w2;obtain⟨xb,xo,exa2,hxb,w4⟩:=row.at (i:=C) (by omega) (by omega);have w4:=w4 0 1 (by omega) (by omega);cases xa with
 |none=>cases exa2
 |some xad=>
 cases exa2;obtain⟨v,ev⟩:∃z,z=gt (gt g K) C:=⟨_,rfl⟩;rw[<-ev]at w4;have q4:rd h9 xb (place xo C 1) 1 [.int .i64 v]:=rd_ok hA w4;have bv:=t.hM.nine K C;rw[<-ev]at bv;have bu:=t.sm i hi k;rw[<-eu]at bu;have bp:=Ext.mul_le bu bv;have eS2:Ext.sumN (fun k=>G i k*Ext.el g k c) (k+1)=S+u*v:=by
  show Ext.sumN (fun k=>G i k*Ext.el g k c) k+G i k*Ext.el g k c=_;rw[eS,eu,ev,eK,eC];rfl
 obtain⟨p,ep⟩:∃z,z=u*v:=⟨_,rfl⟩;rw[<-ep]at bp eS2;obtain⟨S2,eSS⟩:∃z,z=S+p:=⟨_,rfl⟩;rw[<-eSS]at eS2;clear eS;have m1:arith .mul .i64 u v=p:=by rw[ep];exact mul64 hA (by rw[<-ep];omega) (by rw[<-ep];omega)
 have kb:k*5668704<=4*5668704:=Nat.mul_le_mul_right _ (by omega);have m2:arith .add .i64 S p=S2:=by clear eS2;rw[eSS];exact add64 hA (by omega) (by omega)
 have bS2:S2.natAbs<=(k+1)*5668704:=by clear eS2;omega
 refine hA.roundR Try.func4 r4_ok (zc ?_)
 (refine zq ?_;repeat ((first|rw[e0]);refine zq ?_))
 refine br (K<M) (by rw[e_lss hA]) (fun _=>?_) (fun q=>by omega)<;>refine zc ?_;rw[<-eh9]
 (refine zq ?_;repeat ((first|rw[m1]|rw[m2]);refine zq ?_))
 rw[add64 hA (by omega) (by omega)];exact ih (k+1) (K+1) S2 h9 (by omega) (by omega) (by omega) eS2.symm bS2 x9
theorem lr_cols{hz h0:AHeap}{g:List (List Int)}{B:List Fc}{m n s:Nat}{aa ba qa:Option Addr}{qc:Nat}{hds:List Hd}{rb:Nat->Nat}{G:Nat->Ext.Vec}{W:Int}(t:LRc hz h0 g B m n s aa ba qa qc hds rb G W){i:Nat}(hi:i<s){I L:Int}(eI:I=i){sb wb:Bool}{ac bc:Nat}{Q:Exit->SS->Prop}
  (hQ:∀h',Ext h0 h'->Q (.exit 6) ⟨[(1,.pointer (some ⟨0,0,some 0⟩)),(3,.bool true),(4,.slice qa s qc),(8,.bool sb),(10,.bool wb),(11,.int .i64 L),(12,.int .i64 I)],10,[(0,[.slice aa m ac,.slice ba m bc])],h'⟩) :
  ∀(d c:Nat) (C:Int) (h:AHeap),n-c<=d->c<=n->C=c->Ext h0 h->
   head 4 27 10 ⟨[(1,.pointer (some ⟨0,0,some 0⟩)),(3,.bool true),(4,.slice qa s qc),(8,.bool sb),(10,.bool wb),(11,.int .i64 L),(12,.int .i64 I),(15,.int .i64 C)],10,[(0,[.slice aa m ac,.slice ba m bc])],h⟩ Q:=by
 intro d;have m4:=t.hM.m4;have m1:=t.hM.m1;have n4:=t.hM.n4;obtain⟨N,eN⟩:∃z:Int,z=n:=⟨_,rfl⟩;have e0:ofNat n=N:=by rw[eN];exact e_ofNat hA n
 have hln:(gt g 0).length=n:=t.hM.row 0 (by omega) (by omega);have row:=t.hg.row 0 (by omega) (by omega);have hn2:=row.len;rw[hln]at hn2;obtain⟨xa,exa⟩:∃z,z=(gt hds 0).a:=⟨_,rfl⟩;obtain⟨xc,exc⟩:∃z,z=(gt hds 0).c:=⟨_,rfl⟩;have head0:∀h,Ext h0 h->∃b o,aa=some ⟨b,o,none⟩/\rd h b (place o 0 1) 1 [.slice xa n xc]:=fun h x=>by
  obtain⟨b,o,e,_,w⟩:=(t.hg.ext x).hdAt (i:=0) (by omega) (by omega);rw[<-hn2,<-exa,<-exc]at w;exact⟨b,o,e,rd_ok hA w⟩
 induction d with
 |zero=>
  intro c C h hd hc eC x;obtain⟨b,o,rfl,r1⟩:=head0 h x;refine hA.roundR Try.func4 r4_ok (zc ?_)
  (refine zq ?_;repeat ((first|rw[e0]);refine zq ?_))
  refine br (C<N) (by rw[e_lss hA]) (fun q=>by omega) (fun _=>?_)<;>refine zc ?_;exact hQ h x
 |succ d ih=>
 intro c C h hd hc eC x;by_cases cc:c<n
 rotate_left
 ·obtain⟨b,o,rfl,r1⟩:=head0 h x
  refine hA.roundR Try.func4 r4_ok (zc ?_)
  (refine zq ?_;repeat ((first|rw[e0]);refine zq ?_))
  refine br (C<N) (by rw[e_lss hA]) (fun q=>by omega) (fun _=>?_)<;>refine zc ?_;exact hQ h x
 obtain⟨b,o,rfl,r1⟩:=head0 h x;refine hA.roundR Try.func4 r4_ok (zc ?_)
 (refine zq ?_;repeat ((first|rw[e0]);refine zq ?_))
 refine br (C<N) (by rw[e_lss hA]) (fun _=>?_) (fun q=>by omega)<;>refine zc ?_;refine zq ?_;refine lr_sum hA (t.more x) hi cc eI eC (fun h' S eS x'=>?_) m 0 0 0 h (by omega) (by omega) rfl rfl (by decide) (.refl h);obtain rfl:S=0:=by rw[eS];exact t.rel i hi c cc
 refine zq ?_;refine br ((0:Int)≠0) (by rw[e_neq hA]) (fun q=>absurd rfl q) (fun _=>?_)<;>refine zc ?_;refine zq ?_;rw[add64 hA (by omega) (by omega)];exact ih (c+1) (C+1) h' (by omega) (by omega) (by omega) (x.trans x')
def relS(G:Nat->Ext.Vec)(B:List Fc)(W:Int)(m j:Nat):Int:=Ext.sumN (fun k=>G j k*par B W k) m % W
set_option maxHeartbeats 1000000 in
theorem lr_out{hz h0:AHeap}(hl0:h0.low<=h0.next){g:List (List Int)}{B:List Fc}{m n s:Nat}{aa ba qa:Option Addr}{qc:Nat}{hds:List Hd}{rb:Nat->Nat}{G:Nat->Ext.Vec}{W:Int}(t:LRc hz h0 g B m n s aa ba qa qc hds rb G W){S:Int}(eS:S=s){sb:Bool}{ac bc:Nat}{Q:Exit->SS->Prop}
  (hQ:∀h' (wb:Bool),(wb=true↔∀j,j<s->relS G B W m j=0)->Ext h0 h'->Q (.exit 0) ⟨[(3,.bool true),(8,.bool sb),(10,.bool wb)],1,[(0,[.slice aa m ac,.slice ba m bc])],h'⟩) :
  ∀(d i:Nat) (I last:Int) (wb:Bool) (h:AHeap),s-i<=d->i<=s->I=i->(i<s->last<(Ext.leadV m (G i):Nat))->(wb=true↔∀j,j<i->relS G B W m j=0)->Ext h0 h->
   head 4 11 1 ⟨[(1,.pointer (some ⟨0,0,some 0⟩)),(3,.bool true),(4,.slice qa s qc),(8,.bool sb),(10,.bool wb),(11,.int .i64 last),(12,.int .i64 I)],1,[(0,[.slice aa m ac,.slice ba m bc])],h⟩ Q:=by
 intro d;have m4:=t.hM.m4;have s4:=t.sm4;have e1:ofNat s=S:=by rw[eS];exact e_ofNat hA s
 obtain⟨M,eM⟩:∃z:Int,z=m:=⟨_,rfl⟩;have e0:ofNat m=M:=by rw[eM];exact e_ofNat hA m
 have hW:=t.w.few m4;have wp:=t.w.pos
 induction d with
 |zero=>
  intro i I last wb h hd hi eI hl hw x;refine hA.roundR Try.func4 r4_ok (zc ?_)
  (refine zq ?_;repeat ((first|rw[e1]);refine zq ?_))
  refine br (I<S) (by rw[e_lss hA]) (fun q=>by omega) (fun _=>?_)<;>refine zc ?_;obtain rfl:i=s:=by omega
  exact hQ h wb hw x
 |succ d ih=>
 intro i I last wb h hd hi eI hl hw x;by_cases ci:i<s
 rotate_left
 ·refine hA.roundR Try.func4 r4_ok (zc ?_)
  (refine zq ?_;repeat ((first|rw[e1]);refine zq ?_))
  refine br (I<S) (by rw[e_lss hA]) (fun q=>by omega) (fun _=>?_)<;>refine zc ?_;obtain rfl:i=s:=by omega
  exact hQ h wb hw x
 obtain⟨h9,eh9⟩:∃z,z=bump h 9:=⟨_,rfl⟩;have xb:Ext h h9:=by rw[eh9];exact ext_bump hA _ _
 have x9:=x.trans xb;have t9:=t.more x9;obtain⟨b,rfl,hb,r1⟩:=lr_row hA t9 eI ci;obtain⟨cw,ecw⟩:∃z,z=someCap 1 m:=⟨_,rfl⟩;rw[<-ecw]at r1;have lt:=t.hf.lt i ci;refine hA.roundR Try.func4 r4_ok (zc ?_)
 (refine zq ?_;repeat ((first|rw[e1]);refine zq ?_))
 refine br (I<S) (by rw[e_lss hA]) (fun _=>?_) (fun q=>by omega)<;>refine zc ?_;rw[<-eh9]
 (refine zq ?_;repeat ((first|rw[e0]);refine zq ?_))
 rw[show cmp .neq M M=false by rw[e_neq hA];simp]
 (refine zq ?_;repeat ((first|rw[e0]);refine zq ?_))
 refine lr_lead hA t9 ci eI (fun L eL=>?_) m 0 0 (by omega) (Nat.zero_le _) rfl;obtain⟨v,ev⟩:∃z,z=G i (Ext.leadV m (G i)):=⟨_,rfl⟩;have r3:=lr_el hA t9 eL ci lt ev;have vp:=t.hf.pos i ci;rw[<-ev]at vp;have hl2:=hl ci
 (refine zq ?_;repeat ((first|rw[e0]);refine zq ?_))
 rw[show cmp .eql L M=false by rw[e_eql hA];simp;omega]
 (refine zq ?_;repeat ((first|rw[e0]);refine zq ?_))
 rw[show cmp .lss v 0=false by rw[e_lss hA];simp;omega]
 (refine zq ?_;repeat ((first|rw[e0]);refine zq ?_))
 rw[show cmp .leq L last=false by rw[e_leq hA];simp;omega]
 (refine zq ?_;repeat ((first|rw[e0]);refine zq ?_))
 refine lr_red hA t9 ci eI eL (fun h2 x2=>?_) i 0 0 h9 (by omega) (by omega) rfl (.refl h9);refine zq ?_;refine lr_cols hA (t9.more x2) ci eI (fun h3 x3=>?_) n 0 0 h2 (by omega) (by omega) rfl (.refl h2);have y3:=(x9.trans x2).trans x3;obtain⟨X,eX⟩:∃z,z=bump h3 13:=⟨_,rfl⟩;have xX:Ext h3 X:=by rw[eX];exact ext_bump hA _ _
 have yX:=y3.trans xX;have tX:=t.more yX;obtain⟨b',e',hb',r4⟩:=lr_row hA tX eI ci;cases e';rw[<-ecw]at r4;have xf:=ext_fresh hA X;have tF:=tX.more xf;refine zq ?_;rw[<-eX];refine zq ?_;refine rdot_ok hA (low_fresh hA X) (tF.gd.rows.rowR ci) tF.hB (Nat.le_refl m) (by omega) wp (z:=fun k=>par B W k) (fun k hk=>(t.w.part t.ht hk).1) (B:=8162933760000) (fun k hk=>?_) (fun k hk=>?_) (by omega) (fun n1 d1 h4 q4 x4=>⟨_,_,_,rfl,?_⟩)
 ·rw[lst_gt _ hk];have:=t.sm i ci k;omega
 ·rw[lst_gt _ hk]
  obtain⟨_,p0,p1,_⟩:=t.w.part t.ht hk;exact part_le (t.sm i ci _) p0 p1 hW
 have eq4:Ext.sumN (fun k=>gt (lst (G i) m) (k:Int)*par B W k) m % W=relS G B W m i:=by
  unfold relS
  congr 1
  exact Ext.sumN_congr m (fun k hk=>by rw[lst_gt _ hk])
 rw[eq4]at q4;have nz:=f_zero q4 wp;obtain⟨X2,eX2⟩:∃z,z=lowered X h4:=⟨_,rfl⟩;have yX2:Ext h0 X2:=by rw[eX2];exact ext_low hA hl0 yX x4
 have elim:addN (next h3) 13=X.next:=by rw[e_addN hA,e_next hA,eX,e_bump hA];rfl
 have nw:=wrote_no hA x4;have hl3:i+1<s->L<(Ext.leadV m (G (i+1)):Nat):=fun q=>by have:=t.hf.inc i (i+1) (by omega) q;omega
 cases wb with
 |false=>
  refine zq ?_;rw[<-eX2,add64 hA (by omega) (by omega)];refine ih (i+1) (I+1) L false X2 (by omega) (by omega) (by omega) hl3 ⟨(fun q=>by cases q),fun q=>?_⟩ yX2;exact hw.2 (fun j hj=>q j (by omega))
 |true=>
  obtain⟨w2,ew2⟩:∃w:Bool,w=cmp .eql n1 0:=⟨_,rfl⟩;have hw2:w2=true↔n1=0:=by rw[ew2,e_eql hA];simp
  refine zq ?_;rw[<-ew2];refine zq ?_;rw[<-eX2,add64 hA (by omega) (by omega)];refine ih (i+1) (I+1) L w2 X2 (by omega) (by omega) (by omega) hl3 ⟨fun q j hj=>?_,fun q=>hw2.2 (nz.2 (q i (by omega)))⟩ yX2;by_cases e:j=i
  ·rw[e];exact nz.1 (hw2.1 q)
  ·exact hw.1 rfl j (by omega)
theorem lrel_ok(hF:∀h,F 16 [] h=some (.bool true,h))(hI:InsC F){h:AHeap}(hlow:h.low<=h.next){m ac k bc:Nat}{aa ba:Option Addr}{hds:List Hd}{g:List (List Int)}{B:List Fc}(hg:GrN nC 1 h aa m hds g)(hB:Rows fC 2 h ba k B)(hm:m<=maxLen)(hk:k<=maxLen)(hi:∀i:Int,0<=i->i<k->i64 (gt B i).n/\i64 (gt B i).d){Q:Value->AHeap->Prop}
  (hQ:∀h',Ext h h'->Q (.bool true) h'):call 4 [.agg #[.slice aa m ac,.slice ba k bc]] h Q:=by
 refine hA.bodyR Try.func4 r4_ok (hA.alike _ _ _ rfl) hlow (zc ?_);refine zq ?_;refine hA.prim (hF h) ⟨_,rfl,?_⟩;refine zq ?_;refine rCheck_ok hA hlow hg hB hi (fun e h1 he x1=>⟨e,rfl,?_⟩);refine zq ?_;have cn:cmp .neq (0:Int) 0=false:=by rw[e_neq hA];rfl
 by_cases ez:e=0
 rotate_left
 ·rw[show cmp .neq e 0=true by rw[e_neq hA];simp[ez]]
  refine zq ?_;exact hQ h1 x1
 subst ez;rw[cn];refine zq ?_;rw[show bnot true=false by rw[e_bnot hA];rfl];refine zq ?_;obtain⟨gd0,nm⟩:=he.good;obtain⟨m',n,hM⟩:=gd0.mat nm;obtain rfl:m=m':=by have:=hg.len;have:=hM.len;omega
 have hgf:=hg.full (fun y y0 y1=>by rw[hM.row y y0 y1];exact hM.n1);have hkm:k=m:=by have:=gd0.len;have:=hB.len;have:=hg.len;omega
 subst hkm;refine rel_is hA hI (x1.lowOK hlow) (hg.ext x1) (hB.ext x1) hi (fun e3 hz h2 qa s w qc rb G v3 gd x2=>⟨_,_,_,_,rfl,?_⟩);have y2:=x1.trans x2;obtain rfl:=he.uniq v3.chk;obtain⟨m2,n2,r,A,hM2,st,rfl,rfl⟩:=v3.good rfl;obtain⟨rfl,rfl⟩:=hM.uniq hM2;refine zq ?_;refine inv_is hA (y2.lowOK hlow) (hg.ext y2) (hB.ext y2) hi (fun e4 h3 da dn dc dl v4 t4 x3=>⟨_,_,_,_,rfl,?_⟩);have y3:=y2.trans x3;obtain rfl:=he.uniq v4.chk;obtain⟨m2,n2,r',hM2,ir,rfl⟩:=v4.good rfl;obtain⟨rfl,rfl⟩:=hM.uniq hM2;obtain rfl:=(st.rank hM).uniq ir;obtain rfl:r=dn:=by rw[<-t4.len];exact(lst_len _ _).symm
 refine zq ?_;refine Solvable_ok hA hI (y3.lowOK hlow) (hg.ext y3) (hB.ext y3) hi (fun e5 h4 c5 ne _=>absurd (he.uniq c5).symm ne) (fun sb h4 n5 c5 hM5 hsb x4=>⟨_,_,rfl,?_⟩);obtain⟨_,rfl⟩:=hM.uniq hM5;have y4:=y3.trans x4;obtain⟨S,eS⟩:∃z:Int,z=s:=⟨_,rfl⟩;have e0:ofNat s=S:=by rw[eS];exact e_ofNat hA s
 obtain⟨M,eM⟩:∃z:Int,z=k:=⟨_,rfl⟩;have e1:ofNat k=M:=by rw[eM];exact e_ofNat hA k
 obtain⟨R,eR⟩:∃z:Int,z=r:=⟨_,rfl⟩;have e2:ofNat r=R:=by rw[eR];exact e_ofNat hA r
 have hs:=st.sum;have m4:=hM.m4;have m1:arith .sub .i64 M R=S:=by rw[sub64 hA (by omega) (by omega)];omega
 have cs:cmp .neq S S=false:=by rw[e_neq hA];simp
 (refine zq ?_;repeat ((first|rw[e0]|rw[e1]|rw[e2]);refine zq ?_))
 rw[cn]
 (refine zq ?_;repeat ((first|rw[e0]|rw[e1]|rw[e2]);refine zq ?_))
 rw[cn]
 (refine zq ?_;repeat ((first|rw[e0]|rw[e1]|rw[e2]);refine zq ?_))
 rw[cn]
 (refine zq ?_;repeat ((first|rw[e0]|rw[e1]|rw[e2]|rw[m1]|rw[cs]);refine zq ?_))
 obtain⟨W,w⟩:=Whl.ex (k:=k) (B:=B) (fun i i0 i1=>gd0.turn i i0 (by have:=hB.len;omega));have ht:∀i:Int,0<=i->i<k->turnF (gt B i)/\(gt B i).d<=60:=fun i i0 i1=>gd0.turn i i0 (by have:=hB.len;omega)
 refine lr_out hA (y4.lowOK hlow) (⟨hM,hgf.ext y4,hB.ext y4,(gd.more x3).more x4,st.relHnf,fun i hi=>st.rel hi,fun i hi j=>st.small hM (by omega) _,ht,w,by omega⟩:LRc hz h4 g B k n s aa ba qa qc hds rb _ W) eS (fun h5 wb hwb x5=>?_) s 0 0 (-1) true h4 (by omega) (by omega) rfl (fun _=>by omega) ⟨fun _ j hj=>by omega,fun _=>rfl⟩ (.refl h4);have ew:sb=wb:=by
  have q:=hsb.trans ((st.holds ht w).symm.trans hwb.symm);cases sb<;>cases wb<;>simp at q ⊢
 subst ew;refine zq ?_;rw[show bsame sb sb=true by rw[e_bsame hA];simp];refine zq ?_;exact hQ h5 (y4.trans x5)
