import Derived.Test.YtdpbiegfljmhmaaSmV
import Derived.Test.YtdpbiegfljmhmaaSmIn
set_option linter.unusedSimpArgs false
set_option linter.unusedVariables false
namespace Go.Proofs.Ytdpbiegfljmhmaa
open Go.Sim
set_option maxRecDepth 100000
variable{F:Prims}{call head a0 b0 d0 bnot e0 f0 g0 k0 l0 ofNat n0 place o0 nz p0 rd wr s0 next t0 u0 v0 w0 y0 z0 a1 b1 c1 d1 f1 g1 k1 l1 o1 p1 s1 t1 lt ne u1 v1 w1 yn y1 z1 a2 b2 c2 d2:_}(hA:AP F ⟨call,head,a0,b0,d0,bnot,e0,f0,g0,k0,l0,ofNat,n0,place,o0,nz,p0,rd,wr,s0,next,t0,u0,v0,w0,y0,z0,a1,b1,c1,d1,f1,g1,k1,l1,o1,p1,s1,t1,lt,ne,u1,v1,w1,yn,y1,z1,a2,b2,c2,d2⟩)
include hA
theorem chk_rows{h:AHeap}{m ac k bc:Nat}{aa ba:Option Addr}{hds:List Hd}{g:List (List Int)}(hg:GrN nC 1 h aa m hds g)(hm:m<=1000){M:Int}(eM:M=m){Q:Exit->SS->Prop}
  (hret:(∃i:Int,0<=i/\i<m/\4<(gt g i).length)->∀env,Q .ret ⟨(2,.int .i64 4) :: env,1,[(0,[.slice aa m ac,.slice ba k bc])],h⟩)
  (hend:(∀i:Int,0<=i->i<m->(gt g i).length<=4)->Q (.exit 0) ⟨[(1,.pointer (some ⟨0,0,some 0⟩))],1,[(0,[.slice aa m ac,.slice ba k bc])],h⟩) :
  ∀(d i:Nat) (I:Int),m-i<=d->i<=m->I=i->(∀j:Int,0<=j->j<i->(gt g j).length<=4)->
   head 12 4 1 ⟨[(1,.pointer (some ⟨0,0,some 0⟩)),(16,.slice aa m ac),(17,.int .i64 M),(18,.int .i64 I)],1,[(0,[.slice aa m ac,.slice ba k bc])],h⟩ Q:=by
 refine upTo (fun d ih=>?_);intro i I hd hi eI hp;by_cases ci:i<m
 rotate_left
 ·refine hA.roundR Try.func12 r12_ok (zc ?_)
  refine br (I<M) (by rw[e_lss hA]) (fun q=>by omega) (fun _=>?_)<;>refine zc ?_;exact hend (fun j j0 j1=>hp j j0 (by omega))
 obtain⟨d,rfl⟩:∃k,d=k+1:=⟨d-1,by omega⟩
 replace ih:=ih d rfl
 obtain⟨b,o,rfl,hb,q1⟩:=hg.hdAt (i:=I) (by omega) (by omega);obtain⟨ra,era⟩:∃z,z=(gt hds I).a:=⟨_,rfl⟩;obtain⟨rn,ern⟩:∃z,z=(gt hds I).n:=⟨_,rfl⟩;obtain⟨rc,erc⟩:∃z,z=(gt hds I).c:=⟨_,rfl⟩;rw[<-era,<-ern,<-erc]at q1;have r1:rd h b (place o I 1) 1 [.slice ra rn rc]:=rd_ok hA q1;have hrl:(gt g I).length=rn:=by rw[ern];exact hg.rowN (by omega) (by omega)
 obtain⟨R,eR⟩:∃z:Int,z=rn:=⟨_,rfl⟩;have e1:ofNat rn=R:=by rw[eR];exact e_ofNat hA rn
 refine hA.roundR Try.func12 r12_ok (zc ?_);refine br (I<M) (by rw[e_lss hA]) (fun _=>?_) (fun q=>by omega)<;>refine zc ?_
 (refine zq ?_;repeat ((first|rw[e1]);refine zq ?_))
 refine br (4<R) (by rw[e_gtr hA]) (fun c4=>?_) (fun c4=>?_)<;>refine zc ?_
 ·refine zq ?_
  exact hret ⟨I,by omega,by omega,by omega⟩ _
 refine zq ?_;rw[add64 hA (by omega) (by omega)];exact ih (i+1) (I+1) (by omega) (by omega) (by omega) (fun j j0 j1=>by
  by_cases e:j=I
  ·rw[e];omega
  ·exact hp j j0 (by omega))
theorem chk_el{h:AHeap}{m ac k bc rn rc:Nat}{aa ba ra:Option Addr}{row:List Int}{J0 M:Int}(hr:0<rn->Rows nC 1 h ra rn row)(hn:rn<=1000){R:Int}(eR:R=rn){Q:Exit->SS->Prop}
  (hret:(∃j:Int,0<=j/\j<rn/\¬(-9<=gt row j/\gt row j<=9))->∀env,Q .ret ⟨(2,.int .i64 8) :: env,1,[(0,[.slice aa m ac,.slice ba k bc])],h⟩)
  (hend:(∀j:Int,0<=j->j<rn->-9<=gt row j/\gt row j<=9)->Q (.exit 4) ⟨[(1,.pointer (some ⟨0,0,some 0⟩)),(48,.slice aa m ac),(49,.int .i64 M),(50,.int .i64 J0)],1,[(0,[.slice aa m ac,.slice ba k bc])],h⟩) :
  ∀(d i:Nat) (I:Int),rn-i<=d->i<=rn->I=i->(∀j:Int,0<=j->j<i->-9<=gt row j/\gt row j<=9)->
   head 12 17 1 ⟨[(1,.pointer (some ⟨0,0,some 0⟩)),(48,.slice aa m ac),(49,.int .i64 M),(50,.int .i64 J0),(62,.slice ra rn rc),(63,.int .i64 R),(64,.int .i64 I)],1,[(0,[.slice aa m ac,.slice ba k bc])],h⟩ Q:=by
 refine upTo (fun d ih=>?_);intro i I hd hi eI hp;by_cases ci:i<rn
 rotate_left
 ·refine hA.roundR Try.func12 r12_ok (zc ?_)
  refine br (I<R) (by rw[e_lss hA]) (fun q=>by omega) (fun _=>?_)<;>refine zc ?_;exact hend (fun j j0 j1=>hp j j0 (by omega))
 obtain⟨d,rfl⟩:∃k,d=k+1:=⟨d-1,by omega⟩
 replace ih:=ih d rfl
 obtain⟨b,o,rfl,hb,q1⟩:=(hr (by omega)).at (i:=I) (by omega) (by omega);have q2:=q1 0 1 (by omega) (by omega);obtain⟨x,ex⟩:∃z,z=gt row I:=⟨_,rfl⟩;rw[<-ex]at q2;have r1:rd h b (place o I 1) 1 [.int .i64 x]:=rd_ok hA q2;refine hA.roundR Try.func12 r12_ok (zc ?_);refine br (I<R) (by rw[e_lss hA]) (fun _=>?_) (fun q=>by omega)<;>refine zc ?_;refine zq ?_;refine br (x < -9) (by rw[e_lss hA]) (fun c4=>?_) (fun c4=>?_)<;>refine zc ?_
 ·refine zq ?_
  exact hret ⟨I,by omega,by omega,by omega⟩ _
 refine zq ?_;refine br (9<x) (by rw[e_gtr hA]) (fun c5=>?_) (fun c5=>?_)<;>refine zc ?_
 ·refine zq ?_
  exact hret ⟨I,by omega,by omega,by omega⟩ _
 refine zq ?_;rw[add64 hA (by omega) (by omega)];exact ih (i+1) (I+1) (by omega) (by omega) (by omega) (fun j j0 j1=>by
  by_cases e:j=I
  ·rw[e,<-ex];omega
  ·exact hp j j0 (by omega))
theorem chk_mid{h:AHeap}{m ac k bc:Nat}{aa ba:Option Addr}{hds:List Hd}{g:List (List Int)}(hg:GrN nC 1 h aa m hds g)(m0:0<m)(hm:m<=1000)(hl:∀i:Int,0<=i->i<m->(gt g i).length<=1000){M:Int}(eM:M=m){Q:Exit->SS->Prop}
  (hret:(∃i:Int,0<=i/\i<m/\¬((gt g i).length=(gt g 0).length/\∀j:Int,0<=j->j<(gt g i).length->-9<=gt (gt g i) j/\gt (gt g i) j<=9))->∀env,Q .ret ⟨(2,.int .i64 8) :: env,1,[(0,[.slice aa m ac,.slice ba k bc])],h⟩)
  (hend:(∀i:Int,0<=i->i<m->(gt g i).length=(gt g 0).length/\∀j:Int,0<=j->j<(gt g i).length->-9<=gt (gt g i) j/\gt (gt g i) j<=9)->Q (.exit 2) ⟨[(1,.pointer (some ⟨0,0,some 0⟩))],1,[(0,[.slice aa m ac,.slice ba k bc])],h⟩) :
  ∀(d i:Nat) (I:Int),m-i<=d->i<=m->I=i->(∀j:Int,0<=j->j<i->(gt g j).length=(gt g 0).length/\∀x:Int,0<=x->x<(gt g j).length->-9<=gt (gt g j) x/\gt (gt g j) x<=9)->
   head 12 12 1 ⟨[(1,.pointer (some ⟨0,0,some 0⟩)),(48,.slice aa m ac),(49,.int .i64 M),(50,.int .i64 I)],1,[(0,[.slice aa m ac,.slice ba k bc])],h⟩ Q:=by
 refine upTo (fun d ih=>?_);intro i I hd hi eI hp;by_cases ci:i<m
 rotate_left
 ·refine hA.roundR Try.func12 r12_ok (zc ?_)
  refine br (I<M) (by rw[e_lss hA]) (fun q=>by omega) (fun _=>?_)<;>refine zc ?_;exact hend (fun j j0 j1=>hp j j0 (by omega))
 obtain⟨d,rfl⟩:∃k,d=k+1:=⟨d-1,by omega⟩
 replace ih:=ih d rfl
 obtain⟨b,o,rfl,hb,q1⟩:=hg.hdAt (i:=I) (by omega) (by omega);obtain⟨b',o',e',_,q0⟩:=hg.hdAt (i:=0) (by omega) (by omega);cases e';obtain⟨ra,era⟩:∃z,z=(gt hds I).a:=⟨_,rfl⟩;obtain⟨rn,ern⟩:∃z,z=(gt hds I).n:=⟨_,rfl⟩;obtain⟨rc,erc⟩:∃z,z=(gt hds I).c:=⟨_,rfl⟩;obtain⟨sa,esa⟩:∃z,z=(gt hds 0).a:=⟨_,rfl⟩;obtain⟨sn,esn⟩:∃z,z=(gt hds 0).n:=⟨_,rfl⟩;obtain⟨sc,esc⟩:∃z,z=(gt hds 0).c:=⟨_,rfl⟩;rw[<-era,<-ern,<-erc]at q1;rw[<-esa,<-esn,<-esc]at q0;have r1:rd h b (place o I 1) 1 [.slice ra rn rc]:=rd_ok hA q1;have r0:rd h b (place o 0 1) 1 [.slice sa sn sc]:=rd_ok hA q0;have row:=(hg.row I (by omega) (by omega)).2;rw[<-era,<-ern]at row;have hrl:(gt g I).length=rn:=by rw[ern];exact hg.rowN (by omega) (by omega)
 have hsl:(gt g 0).length=sn:=by rw[esn];exact hg.rowN (by omega) (by omega)
 have hl1:=hl I (by omega) (by omega);have hl0:=hl 0 (by omega) (by omega);obtain⟨R,eR⟩:∃z:Int,z=rn:=⟨_,rfl⟩;have e1:ofNat rn=R:=by rw[eR];exact e_ofNat hA rn
 obtain⟨S,eS⟩:∃z:Int,z=sn:=⟨_,rfl⟩;have e2:ofNat sn=S:=by rw[eS];exact e_ofNat hA sn
 refine hA.roundR Try.func12 r12_ok (zc ?_);refine br (I<M) (by rw[e_lss hA]) (fun _=>?_) (fun q=>by omega)<;>refine zc ?_
 (refine zq ?_;repeat ((first|rw[e1]|rw[e2]);refine zq ?_))
 refine br (R≠S) (by rw[e_neq hA]) (fun c4=>?_) (fun c4=>?_)<;>refine zc ?_
 ·refine zq ?_
  exact hret ⟨I,by omega,by omega,fun q=>c4 (by have:=q.1;omega)⟩ _
 (refine zq ?_;repeat ((first|rw[e1]);refine zq ?_))
 refine chk_el hA row (by omega) eR (fun c env=>?_) (fun c=>?_) rn 0 0 (by omega) (by omega) rfl (fun j j0 j1=>by omega)
 ·obtain⟨j,j0,j1,j2⟩:=c
  exact hret ⟨I,by omega,by omega,fun q=>j2 (q.2 j j0 (by omega))⟩ env
 refine zq ?_;rw[add64 hA (by omega) (by omega)];exact ih (i+1) (I+1) (by omega) (by omega) (by omega) (fun j j0 j1=>by
  by_cases e:j=I
  ·rw[e];exact⟨by omega,fun x x0 x1=>c x x0 (by omega)⟩
  ·exact hp j j0 (by omega))
theorem chk_turn{h0:AHeap}(hl0:h0.low<=h0.next){k bc:Nat}{ba:Option Addr}{B:List Fc}{cells:List Value}(hB:Rows fC 2 h0 ba k B)(hk:k<=1000)(hi:∀i:Int,0<=i->i<k->i64 (gt B i).n/\i64 (gt B i).d){K:Int}(eK:K=k){Q:Exit->SS->Prop}
  (hret:(∃i:Int,0<=i/\i<k/\¬(turnF (gt B i)/\(gt B i).d<=60))->∀env kn T h',Ext h0 h'->Q .ret ⟨(2,.int .i64 8) :: env,kn,T,h'⟩)
  (hend:(∀i:Int,0<=i->i<k->turnF (gt B i)/\(gt B i).d<=60)->∀kn T h',Ext h0 h'->Q (.exit 6) ⟨[],kn,T,h'⟩) :
  ∀(d i:Nat) (I:Int) (h:AHeap),k-i<=d->i<=k->I=i->Ext h0 h->(∀j:Int,0<=j->j<i->turnF (gt B j)/\(gt B j).d<=60)->
   head 12 24 1 ⟨[(77,.slice ba k bc),(78,.int .i64 K),(79,.int .i64 I)],1,[(0,cells)],h⟩ Q:=by
 refine upTo (fun d ih=>?_);intro i I h hd hi' eI x hp;by_cases ci:i<k
 rotate_left
 ·refine hA.roundR Try.func12 r12_ok (zc ?_)
  refine br (I<K) (by rw[e_lss hA]) (fun q=>by omega) (fun _=>?_)<;>refine zc ?_;exact hend (fun j j0 j1=>hp j j0 (by omega)) _ _ h x
 obtain⟨d,rfl⟩:∃k,d=k+1:=⟨d-1,by omega⟩
 replace ih:=ih d rfl
 have hlow:h.low<=h.next:=x.lowOK hl0;obtain⟨b,o,rfl,hb,q1⟩:=(hB.ext x).at (i:=I) (by omega) (by omega);have q2:=q1 0 2 (by omega) (by omega);obtain⟨y,ey⟩:∃z,z=gt B I:=⟨_,rfl⟩;obtain⟨i1,i2⟩:=hi I (by omega) (by omega);rw[<-ey]at q2 i1 i2;obtain⟨yn,yd⟩:=y;have r1:rd h b (place o I 2) 2 [.int .i64 yn,.int .i64 yd]:=rd_ok hA q2;refine hA.roundR Try.func12 r12_ok (zc ?_);refine br (I<K) (by rw[e_lss hA]) (fun _=>?_) (fun q=>by omega)<;>refine zc ?_;refine zq ?_;refine turn_ok hA (x:=⟨yn,yd⟩) hlow i1 i2 (fun t h1 ht x1=>⟨t,rfl,?_⟩);have x2:=x.trans x1;refine zq ?_;cases t with
 |false=>
  have nt:¬turnF ⟨yn,yd⟩:=fun q=>by have:=ht.2 q;cases this
  rw[show bnot false=true by rw[e_bnot hA];rfl];refine zq ?_;exact hret ⟨I,by omega,by omega,fun q=>nt (by rw[ey];exact q.1)⟩ _ _ _ h1 x2
 |true=>
  have tt:turnF ⟨yn,yd⟩:=ht.1 rfl;rw[show bnot true=false by rw[e_bnot hA];rfl];refine zq ?_;refine br (60<yd) (by rw[e_gtr hA]) (fun c=>?_) (fun c=>?_)<;>refine zc ?_
  ·refine zq ?_
   exact hret ⟨I,by omega,by omega,fun q=>by rw[<-ey]at q;have:=q.2;simp only at this;omega⟩ _ _ _ h1 x2
  ·refine zq ?_
   rw[add64 hA (by omega) (by omega)];exact ih (i+1) (I+1) h1 (by omega) (by omega) (by omega) x2 (fun j j0 j1=>by
    by_cases e:j=I
    ·rw[e,<-ey];exact⟨tt,by show yd<=60;omega⟩
    ·exact hp j j0 (by omega))
theorem Check_ok{h:AHeap}(hlow:h.low<=h.next){m ac k bc:Nat}{aa ba:Option Addr}{hds:List Hd}{g:List (List Int)}{B:List Fc}(hg:GrN nC 1 h aa m hds g)(hB:Rows fC 2 h ba k B)(hi:∀i:Int,0<=i->i<k->i64 (gt B i).n/\i64 (gt B i).d){Q:Value->AHeap->Prop}
  (hQ:∀e h',ChkIs g B e->Ext h h'->Q (.int .i64 e) h'):call 12 [.agg #[.slice aa m ac,.slice ba k bc]] h Q:=by
 have hgm:=hg.len;have hbk:=hB.len;obtain⟨M,eM⟩:∃z:Int,z=m:=⟨_,rfl⟩;have e1:ofNat m=M:=by rw[eM];exact e_ofNat hA m
 obtain⟨K,eK⟩:∃z:Int,z=k:=⟨_,rfl⟩;have e2:ofNat k=K:=by rw[eK];exact e_ofNat hA k
 refine hA.bodyR Try.func12 r12_ok (hA.alike _ _ _ rfl) hlow (zc ?_)
 (refine zq ?_;repeat ((first|rw[e1]);refine zq ?_))
 refine br (4<M) (by rw[e_gtr hA]) (fun c=>?_) (fun c=>?_)<;>refine zc ?_
 ·refine zq ?_
  exact hQ _ _ (.inl ⟨.inl (by omega),rfl⟩) (.refl h)
 have hm4:m<=1000:=by omega
 (refine zq ?_;repeat ((first|rw[e1]);refine zq ?_))
 refine chk_rows hA hg hm4 eM (fun q env=>?_) (fun hr4=>?_) m 0 0 (by omega) (by omega) rfl (fun j j0 j1=>by omega)
 ·refine zq ?_
  obtain⟨i,i0,i1,i2⟩:=q;exact hQ _ _ (.inl ⟨.inr ⟨i,i0,by omega,i2⟩,rfl⟩) (.refl h)
 have nm:¬Many g:=fun q=>by
  rcases q with q|⟨i,i0,i1,i2⟩
  ·omega
  ·have:=hr4 i i0 (by omega);omega
 have hl:∀i:Int,0<=i->i<m->(gt g i).length<=1000:=fun i i0 i1=>by have:=hr4 i i0 i1;omega
 have bad:¬Good g B->∀h',Ext h h'->Q (.int .i64 8) h':=fun q h' x=>hQ _ _ (.inr (.inr ⟨nm,q,rfl⟩)) x
 (refine zq ?_;repeat ((first|rw[e1]);refine zq ?_))
 refine br (M=0) (by rw[e_eql hA]) (fun c0=>?_) (fun c0=>?_)<;>refine zc ?_
 ·refine zq ?_
  exact bad (fun q=>by have:=q.m1;omega) h (.refl h)
 obtain⟨b,o,rfl,hb,q0⟩:=hg.hdAt (i:=0) (by omega) (by omega);obtain⟨sa,esa⟩:∃z,z=(gt hds 0).a:=⟨_,rfl⟩;obtain⟨sn,esn⟩:∃z,z=(gt hds 0).n:=⟨_,rfl⟩;obtain⟨sc,esc⟩:∃z,z=(gt hds 0).c:=⟨_,rfl⟩;rw[<-esa,<-esn,<-esc]at q0;have r0:rd h b (place o 0 1) 1 [.slice sa sn sc]:=rd_ok hA q0;have hsl:(gt g 0).length=sn:=by rw[esn];exact hg.rowN (by omega) (by omega)
 have hl0:=hl 0 (by omega) (by omega);obtain⟨S,eS⟩:∃z:Int,z=sn:=⟨_,rfl⟩;have e3:ofNat sn=S:=by rw[eS];exact e_ofNat hA sn
 (refine zq ?_;repeat ((first|rw[e3]);refine zq ?_))
 refine br (S=0) (by rw[e_eql hA]) (fun cs=>?_) (fun cs=>?_)<;>refine zc ?_
 ·refine zq ?_
  exact bad (fun q=>by have:=q.n1;omega) h (.refl h)
 (refine zq ?_;repeat ((first|rw[e1]|rw[e2]);refine zq ?_))
 refine br (K≠M) (by rw[e_neq hA]) (fun ck=>?_) (fun ck=>?_)<;>refine zc ?_
 ·refine zq ?_
  exact bad (fun q=>by have:=q.len;omega) h (.refl h)
 (refine zq ?_;repeat ((first|rw[e1]);refine zq ?_))
 refine chk_mid hA hg (by omega) hm4 hl eM (fun q env=>?_) (fun hmid=>?_) m 0 0 (by omega) (by omega) rfl (fun j j0 j1=>by omega)
 ·refine zq ?_
  obtain⟨i,i0,i1,i2⟩:=q;exact bad (fun w=>i2 ⟨w.row i i0 (by omega),w.coef i i0 (by omega)⟩) h (.refl h)
 (refine zq ?_;repeat ((first|rw[e2]);refine zq ?_))
 refine chk_turn hA hlow hB (by omega) hi eK (fun q env kn T h' x=>?_) (fun q kn T h' x=>?_) k 0 0 h (by omega) (by omega) rfl (.refl h) (fun j j0 j1=>by omega)
 ·refine zq ?_
  obtain⟨i,i0,i1,i2⟩:=q;exact bad (fun w=>i2 (w.turn i i0 (by omega))) h' x
 ·refine zq ?_
  exact hQ _ _ (.inr (.inl ⟨nm,⟨by omega,by omega,by omega,fun i i0 i1=>(hmid i i0 (by omega)).1,fun i i0 i1=>(hmid i i0 (by omega)).2,fun i i0 i1=>q i i0 (by omega)⟩,rfl⟩)) x
