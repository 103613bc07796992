import Derived.Test.YtdpbiegfljmhmaaSmIn
set_option linter.unusedSimpArgs false
set_option linter.unusedVariables false
namespace Go.Proofs.Ytdpbiegfljmhmaa
open Go.Sim
set_option maxRecDepth 100000
variable{F:aM}{call head a0 d0 f0 bnot g0 k0 l0 n0 o0 ofNat p0 place s0 nz t0 rd wr u0 next v0 w0 y0 z0 a1 b1 c1 d1 f1 g1 k1 l1 o1 fresh lowered bump wrote addN lt ne fpAll p1 s1 yn t1 u1 v1 w1 y1 z1:_}(hA:AP F ⟨call,head,a0,d0,f0,bnot,g0,k0,l0,n0,o0,ofNat,p0,place,s0,nz,t0,rd,wr,u0,next,v0,w0,y0,z0,a1,b1,c1,d1,f1,g1,k1,l1,o1,fresh,lowered,bump,wrote,addN,lt,ne,fpAll,p1,s1,yn,t1,u1,v1,w1,y1,z1⟩)
include hA
theorem FF{h:af}{m ac k bc:Nat}{aa ba:Option Addr}{bY:List Hd}{g:List (List Int)}(hg:vv nC 1 h aa m bY g)(hm:m<=1000){M:Int}(eM:M=m){Q:Exit->SS->Prop}
  (hret:(∃i:Int,0<=i/\i<m/\4<(gt g i).length)->∀env,Q .ret ⟨(2,.int .i64 4) :: env,1,[(0,[.slice aa m ac,.slice ba k bc])],h⟩)
  (hend:(∀i:Int,0<=i->i<m->(gt g i).length<=4)->Q (.exit 0) ⟨[(1,.pointer (some ⟨0,0,some 0⟩))],1,[(0,[.slice aa m ac,.slice ba k bc])],h⟩) :
  ∀(d i:Nat) (I:Int),m-i<=d->i<=m->I=i->(∀j:Int,0<=j->j<i->(gt g j).length<=4)->
   head 12 4 1 ⟨[(1,.pointer (some ⟨0,0,some 0⟩)),(16,.slice aa m ac),(17,.int .i64 M),(18,.int .i64 I)],1,[(0,[.slice aa m ac,.slice ba k bc])],h⟩ Q:=by
 refine oD (fun d ih=>?_);intro i I hd hi eI hp;by_cases ci:i<m
 rotate_left
 ·refine hA.roundR Try.func12 r12_ok (zc ?_)
  refine br (I<M) (by rw[au hA]) (fun q=>by omega) (fun _=>?_)<;>refine zc ?_;exact hend (fun j j0 j1=>hp j j0 (by omega))
 obtain⟨d,rfl⟩:∃k,d=k+1:=⟨d-1,by omega⟩
 replace ih:=ih d rfl
 obtain⟨b,o,rfl,hb,q1⟩:=hg.hdAt (i:=I) (by omega) (by omega);obtain⟨ra,era⟩:∃z,z=(gt bY I).a:=⟨_,rfl⟩;obtain⟨rn,ern⟩:∃z,z=(gt bY I).n:=⟨_,rfl⟩;obtain⟨rc,erc⟩:∃z,z=(gt bY I).c:=⟨_,rfl⟩;rw[<-era,<-ern,<-erc]at q1;have r1:rd h b (place o I 1) 1 [.slice ra rn rc]:=az hA q1;have hrl:(gt g I).length=rn:=by rw[ern];exact hg.rowN (by omega) (by omega)
 obtain⟨R,eR⟩:∃z:Int,z=rn:=⟨_,rfl⟩;have e1:ofNat rn=R:=by rw[eR];exact aF hA rn
 refine hA.roundR Try.func12 r12_ok (zc ?_);refine br (I<M) (by rw[au hA]) (fun _=>?_) (fun q=>by omega)<;>refine zc ?_
 (refine zq ?_;repeat ((first|rw[e1]);refine zq ?_))
 refine br (4<R) (by rw[dc hA]) (fun c4=>?_) (fun c4=>?_)<;>refine zc ?_
 ·refine zq ?_
  exact hret ⟨I,by omega,by omega,by omega⟩ _
 refine zq ?_;rw[aB hA (by omega) (by omega)];exact ih (i+1) (I+1) (by omega) (by omega) (by omega) (fun j j0 j1=>by
  by_cases e:j=I
  ·rw[e];omega
  ·exact hp j j0 (by omega))
theorem JV{h:af}{m ac k bc rn rc:Nat}{aa ba ra:Option Addr}{row:List Int}{J0 M:Int}(hr:0<rn->Rows nC 1 h ra rn row)(hn:rn<=1000){R:Int}(eR:R=rn){Q:Exit->SS->Prop}
  (hret:(∃j:Int,0<=j/\j<rn/\¬(-9<=gt row j/\gt row j<=9))->∀env,Q .ret ⟨(2,.int .i64 8) :: env,1,[(0,[.slice aa m ac,.slice ba k bc])],h⟩)
  (hend:(∀j:Int,0<=j->j<rn->-9<=gt row j/\gt row j<=9)->Q (.exit 4) ⟨[(1,.pointer (some ⟨0,0,some 0⟩)),(48,.slice aa m ac),(49,.int .i64 M),(50,.int .i64 J0)],1,[(0,[.slice aa m ac,.slice ba k bc])],h⟩) :
  ∀(d i:Nat) (I:Int),rn-i<=d->i<=rn->I=i->(∀j:Int,0<=j->j<i->-9<=gt row j/\gt row j<=9)->
   head 12 17 1 ⟨[(1,.pointer (some ⟨0,0,some 0⟩)),(48,.slice aa m ac),(49,.int .i64 M),(50,.int .i64 J0),(62,.slice ra rn rc),(63,.int .i64 R),(64,.int .i64 I)],1,[(0,[.slice aa m ac,.slice ba k bc])],h⟩ Q:=by
 refine oD (fun d ih=>?_);intro i I hd hi eI hp;by_cases ci:i<rn
 rotate_left
 ·refine hA.roundR Try.func12 r12_ok (zc ?_)
  refine br (I<R) (by rw[au hA]) (fun q=>by omega) (fun _=>?_)<;>refine zc ?_;exact hend (fun j j0 j1=>hp j j0 (by omega))
 obtain⟨d,rfl⟩:∃k,d=k+1:=⟨d-1,by omega⟩
 replace ih:=ih d rfl
 obtain⟨b,o,rfl,hb,q1⟩:=(hr (by omega)).at (i:=I) (by omega) (by omega);have q2:=q1 0 1 (by omega) (by omega);obtain⟨x,ex⟩:∃z,z=gt row I:=⟨_,rfl⟩;rw[<-ex]at q2;have r1:rd h b (place o I 1) 1 [.int .i64 x]:=az hA q2;refine hA.roundR Try.func12 r12_ok (zc ?_);refine br (I<R) (by rw[au hA]) (fun _=>?_) (fun q=>by omega)<;>refine zc ?_;refine zq ?_;refine br (x < -9) (by rw[au hA]) (fun c4=>?_) (fun c4=>?_)<;>refine zc ?_
 ·refine zq ?_
  exact hret ⟨I,by omega,by omega,by omega⟩ _
 refine zq ?_;refine br (9<x) (by rw[dc hA]) (fun c5=>?_) (fun c5=>?_)<;>refine zc ?_
 ·refine zq ?_
  exact hret ⟨I,by omega,by omega,by omega⟩ _
 refine zq ?_;rw[aB hA (by omega) (by omega)];exact ih (i+1) (I+1) (by omega) (by omega) (by omega) (fun j j0 j1=>by
  by_cases e:j=I
  ·rw[e,<-ex];omega
  ·exact hp j j0 (by omega))
theorem Im{h:af}{m ac k bc:Nat}{aa ba:Option Addr}{bY:List Hd}{g:List (List Int)}(hg:vv nC 1 h aa m bY g)(m0:0<m)(hm:m<=1000)(hl:∀i:Int,0<=i->i<m->(gt g i).length<=1000){M:Int}(eM:M=m){Q:Exit->SS->Prop}
  (hret:(∃i:Int,0<=i/\i<m/\¬((gt g i).length=(gt g 0).length/\∀j:Int,0<=j->j<(gt g i).length->-9<=gt (gt g i) j/\gt (gt g i) j<=9))->∀env,Q .ret ⟨(2,.int .i64 8) :: env,1,[(0,[.slice aa m ac,.slice ba k bc])],h⟩)
  (hend:(∀i:Int,0<=i->i<m->(gt g i).length=(gt g 0).length/\∀j:Int,0<=j->j<(gt g i).length->-9<=gt (gt g i) j/\gt (gt g i) j<=9)->Q (.exit 2) ⟨[(1,.pointer (some ⟨0,0,some 0⟩))],1,[(0,[.slice aa m ac,.slice ba k bc])],h⟩) :
  ∀(d i:Nat) (I:Int),m-i<=d->i<=m->I=i->(∀j:Int,0<=j->j<i->(gt g j).length=(gt g 0).length/\∀x:Int,0<=x->x<(gt g j).length->-9<=gt (gt g j) x/\gt (gt g j) x<=9)->
   head 12 12 1 ⟨[(1,.pointer (some ⟨0,0,some 0⟩)),(48,.slice aa m ac),(49,.int .i64 M),(50,.int .i64 I)],1,[(0,[.slice aa m ac,.slice ba k bc])],h⟩ Q:=by
 refine oD (fun d ih=>?_);intro i I hd hi eI hp;by_cases ci:i<m
 rotate_left
 ·refine hA.roundR Try.func12 r12_ok (zc ?_)
  refine br (I<M) (by rw[au hA]) (fun q=>by omega) (fun _=>?_)<;>refine zc ?_;exact hend (fun j j0 j1=>hp j j0 (by omega))
 obtain⟨d,rfl⟩:∃k,d=k+1:=⟨d-1,by omega⟩
 replace ih:=ih d rfl
 obtain⟨b,o,rfl,hb,q1⟩:=hg.hdAt (i:=I) (by omega) (by omega);obtain⟨b',o',e',_,q0⟩:=hg.hdAt (i:=0) (by omega) (by omega);cases e';obtain⟨ra,era⟩:∃z,z=(gt bY I).a:=⟨_,rfl⟩;obtain⟨rn,ern⟩:∃z,z=(gt bY I).n:=⟨_,rfl⟩;obtain⟨rc,erc⟩:∃z,z=(gt bY I).c:=⟨_,rfl⟩;obtain⟨sa,esa⟩:∃z,z=(gt bY 0).a:=⟨_,rfl⟩;obtain⟨sn,esn⟩:∃z,z=(gt bY 0).n:=⟨_,rfl⟩;obtain⟨sc,esc⟩:∃z,z=(gt bY 0).c:=⟨_,rfl⟩;rw[<-era,<-ern,<-erc]at q1;rw[<-esa,<-esn,<-esc]at q0;have r1:rd h b (place o I 1) 1 [.slice ra rn rc]:=az hA q1;have r0:rd h b (place o 0 1) 1 [.slice sa sn sc]:=az hA q0;have row:=(hg.row I (by omega) (by omega)).2;rw[<-era,<-ern]at row;have hrl:(gt g I).length=rn:=by rw[ern];exact hg.rowN (by omega) (by omega)
 have hsl:(gt g 0).length=sn:=by rw[esn];exact hg.rowN (by omega) (by omega)
 have hl1:=hl I (by omega) (by omega);have hl0:=hl 0 (by omega) (by omega);obtain⟨R,eR⟩:∃z:Int,z=rn:=⟨_,rfl⟩;have e1:ofNat rn=R:=by rw[eR];exact aF hA rn
 obtain⟨S,eS⟩:∃z:Int,z=sn:=⟨_,rfl⟩;have e2:ofNat sn=S:=by rw[eS];exact aF hA sn
 refine hA.roundR Try.func12 r12_ok (zc ?_);refine br (I<M) (by rw[au hA]) (fun _=>?_) (fun q=>by omega)<;>refine zc ?_
 (refine zq ?_;repeat ((first|rw[e1]|rw[e2]);refine zq ?_))
 refine br (R≠S) (by rw[bL hA]) (fun c4=>?_) (fun c4=>?_)<;>refine zc ?_
 ·refine zq ?_
  exact hret ⟨I,by omega,by omega,fun q=>c4 (by have:=q.1;omega)⟩ _
 (refine zq ?_;repeat ((first|rw[e1]);refine zq ?_))
 refine JV hA row (by omega) eR (fun c env=>?_) (fun c=>?_) rn 0 0 (by omega) (by omega) rfl (fun j j0 j1=>by omega)
 ·obtain⟨j,j0,j1,j2⟩:=c
  exact hret ⟨I,by omega,by omega,fun q=>j2 (q.2 j j0 (by omega))⟩ env
 refine zq ?_;rw[aB hA (by omega) (by omega)];exact ih (i+1) (I+1) (by omega) (by omega) (by omega) (fun j j0 j1=>by
  by_cases e:j=I
  ·rw[e];exact⟨by omega,fun x x0 x1=>c x x0 (by omega)⟩
  ·exact hp j j0 (by omega))
theorem Hp{h0:af}(hl0:h0.low<=h0.next){k bc:Nat}{ba:Option Addr}{B:List Fc}{cells:List Value}(hB:Rows fC 2 h0 ba k B)(hk:k<=1000)(hi:∀i:Int,0<=i->i<k->i64 (gt B i).n/\i64 (gt B i).d){K:Int}(eK:K=k){Q:Exit->SS->Prop}
  (hret:(∃i:Int,0<=i/\i<k/\¬(bQ (gt B i)/\(gt B i).d<=60))->∀env kn T h',Ext h0 h'->Q .ret ⟨(2,.int .i64 8) :: env,kn,T,h'⟩)
  (hend:(∀i:Int,0<=i->i<k->bQ (gt B i)/\(gt B i).d<=60)->∀kn T h',Ext h0 h'->Q (.exit 6) ⟨[],kn,T,h'⟩) :
  ∀(d i:Nat) (I:Int) (h:af),k-i<=d->i<=k->I=i->Ext h0 h->(∀j:Int,0<=j->j<i->bQ (gt B j)/\(gt B j).d<=60)->
   head 12 24 1 ⟨[(77,.slice ba k bc),(78,.int .i64 K),(79,.int .i64 I)],1,[(0,cells)],h⟩ Q:=by
 refine oD (fun d ih=>?_);intro i I h hd hi' eI x hp;by_cases ci:i<k
 rotate_left
 ·refine hA.roundR Try.func12 r12_ok (zc ?_)
  refine br (I<K) (by rw[au hA]) (fun q=>by omega) (fun _=>?_)<;>refine zc ?_;exact hend (fun j j0 j1=>hp j j0 (by omega)) _ _ h x
 obtain⟨d,rfl⟩:∃k,d=k+1:=⟨d-1,by omega⟩
 replace ih:=ih d rfl
 have hlow:h.low<=h.next:=x.lowOK hl0;obtain⟨b,o,rfl,hb,q1⟩:=(hB.ext x).at (i:=I) (by omega) (by omega);have q2:=q1 0 2 (by omega) (by omega);obtain⟨y,ey⟩:∃z,z=gt B I:=⟨_,rfl⟩;obtain⟨i1,i2⟩:=hi I (by omega) (by omega);rw[<-ey]at q2 i1 i2;obtain⟨yn,yd⟩:=y;have r1:rd h b (place o I 2) 2 [.int .i64 yn,.int .i64 yd]:=az hA q2;refine hA.roundR Try.func12 r12_ok (zc ?_);refine br (I<K) (by rw[au hA]) (fun _=>?_) (fun q=>by omega)<;>refine zc ?_;refine zq ?_;refine IN hA (x:=⟨yn,yd⟩) hlow i1 i2 (fun t h1 ht x1=>⟨t,rfl,?_⟩);have x2:=x.trans x1;refine zq ?_;cases t with
 |false=>
  have nt:¬bQ ⟨yn,yd⟩:=fun q=>by have:=ht.2 q;cases this
  rw[show bnot false=true by rw[cI hA];rfl];refine zq ?_;exact hret ⟨I,by omega,by omega,fun q=>nt (by rw[ey];exact q.1)⟩ _ _ _ h1 x2
 |true=>
  have tt:bQ ⟨yn,yd⟩:=ht.1 rfl;rw[show bnot true=false by rw[cI hA];rfl];refine zq ?_;refine br (60<yd) (by rw[dc hA]) (fun c=>?_) (fun c=>?_)<;>refine zc ?_
  ·refine zq ?_
   exact hret ⟨I,by omega,by omega,fun q=>by rw[<-ey]at q;have:=q.2;simp only at this;omega⟩ _ _ _ h1 x2
  ·refine zq ?_
   rw[aB hA (by omega) (by omega)];exact ih (i+1) (I+1) h1 (by omega) (by omega) (by omega) x2 (fun j j0 j1=>by
    by_cases e:j=I
    ·rw[e,<-ey];exact⟨tt,by show yd<=60;omega⟩
    ·exact hp j j0 (by omega))
theorem zJ{h:af}(hlow:h.low<=h.next){m ac k bc:Nat}{aa ba:Option Addr}{bY:List Hd}{g:List (List Int)}{B:List Fc}(hg:vv nC 1 h aa m bY g)(hB:Rows fC 2 h ba k B)(hi:∀i:Int,0<=i->i<k->i64 (gt B i).n/\i64 (gt B i).d){Q:Value->af->Prop}
  (hQ:∀e h',hO g B e->Ext h h'->Q (.int .i64 e) h'):call 12 [.agg #[.slice aa m ac,.slice ba k bc]] h Q:=by
 have hgm:=hg.len;have hbk:=hB.len;obtain⟨M,eM⟩:∃z:Int,z=m:=⟨_,rfl⟩;have e1:ofNat m=M:=by rw[eM];exact aF hA m
 obtain⟨K,eK⟩:∃z:Int,z=k:=⟨_,rfl⟩;have e2:ofNat k=K:=by rw[eK];exact aF hA k
 refine hA.bodyR Try.func12 r12_ok (hA.alike _ _ _ rfl) hlow (zc ?_)
 (refine zq ?_;repeat ((first|rw[e1]);refine zq ?_))
 refine br (4<M) (by rw[dc hA]) (fun c=>?_) (fun c=>?_)<;>refine zc ?_
 ·refine zq ?_
  exact hQ _ _ (.inl ⟨.inl (by omega),rfl⟩) (.refl h)
 have hm4:m<=1000:=by omega
 (refine zq ?_;repeat ((first|rw[e1]);refine zq ?_))
 refine FF hA hg hm4 eM (fun q env=>?_) (fun hr4=>?_) m 0 0 (by omega) (by omega) rfl (fun j j0 j1=>by omega)
 ·refine zq ?_
  obtain⟨i,i0,i1,i2⟩:=q;exact hQ _ _ (.inl ⟨.inr ⟨i,i0,by omega,i2⟩,rfl⟩) (.refl h)
 have nm:¬BW g:=fun q=>by
  rcases q with q|⟨i,i0,i1,i2⟩
  ·omega
  ·have:=hr4 i i0 (by omega);omega
 have hl:∀i:Int,0<=i->i<m->(gt g i).length<=1000:=fun i i0 i1=>by have:=hr4 i i0 i1;omega
 have bad:¬aQ g B->∀h',Ext h h'->Q (.int .i64 8) h':=fun q h' x=>hQ _ _ (.inr (.inr ⟨nm,q,rfl⟩)) x
 (refine zq ?_;repeat ((first|rw[e1]);refine zq ?_))
 refine br (M=0) (by rw[cJ hA]) (fun c0=>?_) (fun c0=>?_)<;>refine zc ?_
 ·refine zq ?_
  exact bad (fun q=>by have:=q.m1;omega) h (.refl h)
 obtain⟨b,o,rfl,hb,q0⟩:=hg.hdAt (i:=0) (by omega) (by omega);obtain⟨sa,esa⟩:∃z,z=(gt bY 0).a:=⟨_,rfl⟩;obtain⟨sn,esn⟩:∃z,z=(gt bY 0).n:=⟨_,rfl⟩;obtain⟨sc,esc⟩:∃z,z=(gt bY 0).c:=⟨_,rfl⟩;rw[<-esa,<-esn,<-esc]at q0;have r0:rd h b (place o 0 1) 1 [.slice sa sn sc]:=az hA q0;have hsl:(gt g 0).length=sn:=by rw[esn];exact hg.rowN (by omega) (by omega)
 have hl0:=hl 0 (by omega) (by omega);obtain⟨S,eS⟩:∃z:Int,z=sn:=⟨_,rfl⟩;have e3:ofNat sn=S:=by rw[eS];exact aF hA sn
 (refine zq ?_;repeat ((first|rw[e3]);refine zq ?_))
 refine br (S=0) (by rw[cJ hA]) (fun cs=>?_) (fun cs=>?_)<;>refine zc ?_
 ·refine zq ?_
  exact bad (fun q=>by have:=q.n1;omega) h (.refl h)
 (refine zq ?_;repeat ((first|rw[e1]|rw[e2]);refine zq ?_))
 refine br (K≠M) (by rw[bL hA]) (fun ck=>?_) (fun ck=>?_)<;>refine zc ?_
 ·refine zq ?_
  exact bad (fun q=>by have:=q.len;omega) h (.refl h)
 (refine zq ?_;repeat ((first|rw[e1]);refine zq ?_))
 refine Im hA hg (by omega) hm4 hl eM (fun q env=>?_) (fun hmid=>?_) m 0 0 (by omega) (by omega) rfl (fun j j0 j1=>by omega)
 ·refine zq ?_
  obtain⟨i,i0,i1,i2⟩:=q;exact bad (fun w=>i2 ⟨w.row i i0 (by omega),w.coef i i0 (by omega)⟩) h (.refl h)
 (refine zq ?_;repeat ((first|rw[e2]);refine zq ?_))
 refine Hp hA hlow hB (by omega) hi eK (fun q env kn T h' x=>?_) (fun q kn T h' x=>?_) k 0 0 h (by omega) (by omega) rfl (.refl h) (fun j j0 j1=>by omega)
 ·refine zq ?_
  obtain⟨i,i0,i1,i2⟩:=q;exact bad (fun w=>i2 (w.turn i i0 (by omega))) h' x
 ·refine zq ?_
  exact hQ _ _ (.inr (.inl ⟨nm,⟨by omega,by omega,by omega,fun i i0 i1=>(hmid i i0 (by omega)).1,fun i i0 i1=>(hmid i i0 (by omega)).2,fun i i0 i1=>q i i0 (by omega)⟩,rfl⟩)) x
theorem FJ{h:af}(hlow:h.low<=h.next){x:Fc}(hn:i64 x.n)(hd:i64 x.d){Q:Value->af->Prop}(hQ:∀b h',(b=true↔bQ x)->Ext h h'->Q (.bool b) h'):call 32 [.agg #[.int .i64 x.n,.int .i64 x.d]] h Q:=by
 obtain⟨n,d⟩:=x;simp only at hn hd;refine hA.bodyR Try.func32 r32_ok (hA.alike _ _ _ rfl) hlow (zc ?_);refine jy hA hlow hn hd (fun e h' k x1=>?_);refine⟨e,rfl,?_⟩;refine zq ?_;refine br (e=0) (by rw[cJ hA]) (fun c=>?_) (fun c=>?_)<;>refine zc ?_
 rotate_left
 ·refine zq ?_
  refine hQ false h' ⟨(fun q=>by cases q),fun q=>?_⟩ x1;rcases k with ⟨k,_⟩|⟨_,k⟩
  ·exact absurd k c
  ·exact absurd q.1 k
 have ok:oN n d:=by rcases k with ⟨_,k⟩|⟨k,_⟩;exact k;omega
 refine zq ?_;refine br (0<=n) (by rw[bE hA]) (fun c2=>?_) (fun c2=>?_)<;>refine zc ?_
 rotate_left
 ·refine zq ?_
  exact hQ false h' ⟨(fun q=>by cases q),fun q=>absurd q.2.1 c2⟩ x1
 refine zq ?_;rw[au hA];exact hQ _ h' ⟨fun q=>⟨ok,c2,of_decide_eq_true q⟩,fun q=>decide_eq_true q.2.2⟩ x1
theorem D4{h:af}{m ac k bc:Nat}{aa ba:Option Addr}{bY:List Hd}{g:List (List Int)}(hg:vv nC 1 h aa m bY g)(hm:m<=1000){Q:Exit->SS->Prop}
  (hret:(∃i:Int,0<=i/\i<m/\4<(gt g i).length)->∀env,Q .ret ⟨(2,.int .i64 4) :: env,1,[(0,[.slice aa m ac,.slice ba k bc])],h⟩)
  (hend:(∀i:Int,0<=i->i<m->(gt g i).length<=4)->Q (.exit 0) ⟨[(1,.pointer (some ⟨0,0,some 0⟩))],1,[(0,[.slice aa m ac,.slice ba k bc])],h⟩) :
  ∀(d i:Nat) (I:Int),m-i<=d->i<=m->I=i->(∀j:Int,0<=j->j<i->(gt g j).length<=4)->
   head 13 4 1 ⟨[(1,.pointer (some ⟨0,0,some 0⟩)),(3,.int .i64 I)],1,[(0,[.slice aa m ac,.slice ba k bc])],h⟩ Q:=by
 intro d;obtain⟨M,eM⟩:∃z:Int,z=m:=⟨_,rfl⟩;have e0:ofNat m=M:=by rw[eM];exact aF hA m
 induction d with
 |zero=>
  intro i I hd hi eI hp;refine hA.roundR Try.func13 r13_ok (zc ?_)
  (refine zq ?_;repeat ((first|rw[e0]);refine zq ?_))
  refine br (I<M) (by rw[au hA]) (fun q=>by omega) (fun _=>?_)<;>refine zc ?_;exact hend (fun j j0 j1=>hp j j0 (by omega))
 |succ d ih=>
 intro i I hd hi eI hp;by_cases ci:i<m
 rotate_left
 ·refine hA.roundR Try.func13 r13_ok (zc ?_)
  (refine zq ?_;repeat ((first|rw[e0]);refine zq ?_))
  refine br (I<M) (by rw[au hA]) (fun q=>by omega) (fun _=>?_)<;>refine zc ?_;exact hend (fun j j0 j1=>hp j j0 (by omega))
 obtain⟨b,o,rfl,hb,q1⟩:=hg.hdAt (i:=I) (by omega) (by omega);obtain⟨ra,era⟩:∃z,z=(gt bY I).a:=⟨_,rfl⟩;obtain⟨rn,ern⟩:∃z,z=(gt bY I).n:=⟨_,rfl⟩;obtain⟨rc,erc⟩:∃z,z=(gt bY I).c:=⟨_,rfl⟩;rw[<-era,<-ern,<-erc]at q1;have r1:rd h b (place o I 1) 1 [.slice ra rn rc]:=az hA q1;have hrl:(gt g I).length=rn:=by rw[ern];exact hg.rowN (by omega) (by omega)
 obtain⟨R,eR⟩:∃z:Int,z=rn:=⟨_,rfl⟩;have e1:ofNat rn=R:=by rw[eR];exact aF hA rn
 refine hA.roundR Try.func13 r13_ok (zc ?_)
 (refine zq ?_;repeat ((first|rw[e0]);refine zq ?_))
 refine br (I<M) (by rw[au hA]) (fun _=>?_) (fun q=>by omega)<;>refine zc ?_
 (refine zq ?_;repeat ((first|rw[e1]);refine zq ?_))
 refine br (4<R) (by rw[dc hA]) (fun c4=>?_) (fun c4=>?_)<;>refine zc ?_
 ·refine zq ?_
  exact hret ⟨I,by omega,by omega,by omega⟩ _
 refine zq ?_;rw[aB hA (by omega) (by omega)];exact ih (i+1) (I+1) (by omega) (by omega) (by omega) (fun j j0 j1=>by
  by_cases e:j=I
  ·rw[e];omega
  ·exact hp j j0 (by omega))
theorem HZ{h:af}{m ac k bc:Nat}{aa ba:Option Addr}{bY:List Hd}{g:List (List Int)}{I:Int}(hg:vv nC 1 h aa m bY g)(I0:0<=I)(I1:I<m)(hn:(gt g I).length<=1000){Q:Exit->SS->Prop}
  (hret:(∃j:Int,0<=j/\j<(gt g I).length/\¬(-9<=gt (gt g I) j/\gt (gt g I) j<=9))->∀env,Q .ret ⟨(2,.int .i64 8) :: env,31,[(0,[.slice aa m ac,.slice ba k bc])],h⟩)
  (hend:(∀j:Int,0<=j->j<(gt g I).length->-9<=gt (gt g I) j/\gt (gt g I) j<=9)->Q (.exit 4) ⟨[(1,.pointer (some ⟨0,0,some 0⟩)),(4,.int .i64 I)],31,[(0,[.slice aa m ac,.slice ba k bc])],h⟩) :
  ∀(d j:Nat) (J:Int),(gt g I).length-j<=d->j<=(gt g I).length->J=j->(∀x:Int,0<=x->x<j->-9<=gt (gt g I) x/\gt (gt g I) x<=9)->
   head 13 16 31 ⟨[(1,.pointer (some ⟨0,0,some 0⟩)),(4,.int .i64 I),(5,.int .i64 J)],31,[(0,[.slice aa m ac,.slice ba k bc])],h⟩ Q:=by
 intro d;obtain⟨b,o,rfl,hb,q1⟩:=hg.hdAt (i:=I) I0 I1;obtain⟨ra,era⟩:∃z,z=(gt bY I).a:=⟨_,rfl⟩;obtain⟨rn,ern⟩:∃z,z=(gt bY I).n:=⟨_,rfl⟩;obtain⟨rc,erc⟩:∃z,z=(gt bY I).c:=⟨_,rfl⟩;have row:=(hg.row I I0 I1).2;have hrl0:(gt g I).length=rn:=by rw[ern];exact hg.rowN I0 I1
 rw[<-era,<-ern]at row;rw[<-era,<-ern,<-erc]at q1;have r1:rd h b (place o I 1) 1 [.slice ra rn rc]:=az hA q1;obtain⟨w,ew⟩:∃z,z=gt g I:=⟨_,rfl⟩;rw[<-ew]at row hn hret hend hrl0 ⊢;have hrl:w.length=rn:=hrl0;obtain⟨R,eR⟩:∃z:Int,z=rn:=⟨_,rfl⟩;have e1:ofNat rn=R:=by rw[eR];exact aF hA rn
 induction d with
 |zero=>
  intro j J hd hi eI hp;refine hA.roundR Try.func13 r13_ok (zc ?_)
  (refine zq ?_;repeat ((first|rw[e1]);refine zq ?_))
  refine br (J<R) (by rw[au hA]) (fun q=>by omega) (fun _=>?_)<;>refine zc ?_;exact hend (fun x j0 j1=>hp x j0 (by omega))
 |succ d ih=>
 intro j J hd hi eI hp;by_cases ci:j<rn
 rotate_left
 ·refine hA.roundR Try.func13 r13_ok (zc ?_)
  (refine zq ?_;repeat ((first|rw[e1]);refine zq ?_))
  refine br (J<R) (by rw[au hA]) (fun q=>by omega) (fun _=>?_)<;>refine zc ?_;exact hend (fun x j0 j1=>hp x j0 (by omega))
 obtain⟨b2,o2,rfl,hb2,q2⟩:=(row (by omega)).at (i:=J) (by omega) (by omega);have q3:=q2 0 1 (by omega) (by omega);obtain⟨x,ex⟩:∃z,z=gt w J:=⟨_,rfl⟩;rw[<-ex]at q3;have r2:rd h b2 (place o2 J 1) 1 [.int .i64 x]:=az hA q3;refine hA.roundR Try.func13 r13_ok (zc ?_)
 (refine zq ?_;repeat ((first|rw[e1]);refine zq ?_))
 refine br (J<R) (by rw[au hA]) (fun _=>?_) (fun q=>by omega)<;>refine zc ?_
 (refine zq ?_;repeat ((first|rw[e1]);refine zq ?_))
 refine br (x < -9) (by rw[au hA]) (fun c4=>?_) (fun c4=>?_)<;>refine zc ?_
 ·refine zq ?_
  exact hret ⟨J,by omega,by omega,by omega⟩ _
 (refine zq ?_;repeat ((first|rw[e1]);refine zq ?_))
 refine br (9<x) (by rw[dc hA]) (fun c5=>?_) (fun c5=>?_)<;>refine zc ?_
 ·refine zq ?_
  exact hret ⟨J,by omega,by omega,by omega⟩ _
 refine zq ?_;rw[aB hA (by omega) (by omega)];exact ih (j+1) (J+1) (by omega) (by omega) (by omega) (fun y j0 j1=>by
  by_cases e:y=J
  ·rw[e,<-ex];omega
  ·exact hp y j0 (by omega))
theorem EN{h0:af}(hl0:h0.low<=h0.next){m ac k bc:Nat}{aa ba:Option Addr}{bY:List Hd}{g:List (List Int)}{B:List Fc}(hg:vv nC 1 h0 aa m bY g)(hB:Rows fC 2 h0 ba k B)(m0:0<m)(hm:m<=1000)(hkm:k=m)(hl:∀i:Int,0<=i->i<m->(gt g i).length<=1000)(hi:∀i:Int,0<=i->i<k->i64 (gt B i).n/\i64 (gt B i).d){Q:Exit->SS->Prop}
  (hret:(∃i:Int,0<=i/\i<m/\¬((gt g i).length=(gt g 0).length/\(bQ (gt B i)/\(gt B i).d<=60)/\∀j:Int,0<=j->j<(gt g i).length->-9<=gt (gt g i) j/\gt (gt g i) j<=9))->∀env kn T h',Ext h0 h'->Q .ret ⟨(2,.int .i64 8) :: env,kn,T,h'⟩)
  (hend:(∀i:Int,0<=i->i<m->(gt g i).length=(gt g 0).length/\(bQ (gt B i)/\(gt B i).d<=60)/\∀j:Int,0<=j->j<(gt g i).length->-9<=gt (gt g i) j/\gt (gt g i) j<=9)->∀kn T h',Ext h0 h'->Q (.exit 2) ⟨[],kn,T,h'⟩) :
  ∀(d i:Nat) (I:Int) (h:af),m-i<=d->i<=m->I=i->Ext h0 h->(∀j:Int,0<=j->j<i->(gt g j).length=(gt g 0).length/\(bQ (gt B j)/\(gt B j).d<=60)/\∀x:Int,0<=x->x<(gt g j).length->-9<=gt (gt g j) x/\gt (gt g j) x<=9)->
   head 13 11 1 ⟨[(1,.pointer (some ⟨0,0,some 0⟩)),(4,.int .i64 I)],1,[(0,[.slice aa m ac,.slice ba k bc])],h⟩ Q:=by
 intro d;obtain⟨M,eM⟩:∃z:Int,z=m:=⟨_,rfl⟩;have e0:ofNat m=M:=by rw[eM];exact aF hA m
 induction d with
 |zero=>
  intro i I h hd hi' eI x hp;refine hA.roundR Try.func13 r13_ok (zc ?_)
  (refine zq ?_;repeat ((first|rw[e0]);refine zq ?_))
  refine br (I<M) (by rw[au hA]) (fun q=>by omega) (fun _=>?_)<;>refine zc ?_;exact hend (fun j j0 j1=>hp j j0 (by omega)) _ _ h x
 |succ d ih=>
 intro i I h hd hi' eI x hp;by_cases ci:i<m
 rotate_left
 ·refine hA.roundR Try.func13 r13_ok (zc ?_)
  (refine zq ?_;repeat ((first|rw[e0]);refine zq ?_))
  refine br (I<M) (by rw[au hA]) (fun q=>by omega) (fun _=>?_)<;>refine zc ?_;exact hend (fun j j0 j1=>hp j j0 (by omega)) _ _ h x
 have hlow:h.low<=h.next:=x.lowOK hl0;have xb:Ext h (bump h 30):=aq hA _ _;have gb:=hg.ext (x.trans xb);obtain⟨b,o,rfl,hb,q1⟩:=gb.hdAt (i:=I) (by omega) (by omega);obtain⟨b',o',e',_,q0⟩:=gb.hdAt (i:=0) (by omega) (by omega);cases e';obtain⟨b2,o2,rfl,hb2,q2⟩:=(hB.ext (x.trans xb)).at (i:=I) (by omega) (by omega);obtain⟨y,ey⟩:∃z,z=gt B I:=⟨_,rfl⟩;obtain⟨i1,i2⟩:=hi I (by omega) (by omega);have q3:=q2 0 2 (by omega) (by omega);have q4:=q2 1 1 (by omega) (by omega);rw[<-ey]at q3 q4 i1 i2;obtain⟨yn,yd⟩:=y;have r3:rd (bump h 30) b2 (place o2 I 2) 2 [.int .i64 yn,.int .i64 yd]:=az hA q3;have r4:rd (bump h 30) b2 (addN (place o2 I 2) 1) 1 [.int .i64 yd]:=He hA q4;obtain⟨ra,era⟩:∃z,z=(gt bY I).a:=⟨_,rfl⟩;obtain⟨rn,ern⟩:∃z,z=(gt bY I).n:=⟨_,rfl⟩;obtain⟨rc,erc⟩:∃z,z=(gt bY I).c:=⟨_,rfl⟩;obtain⟨sa,esa⟩:∃z,z=(gt bY 0).a:=⟨_,rfl⟩;obtain⟨sn,esn⟩:∃z,z=(gt bY 0).n:=⟨_,rfl⟩;obtain⟨sc,esc⟩:∃z,z=(gt bY 0).c:=⟨_,rfl⟩;rw[<-era,<-ern,<-erc]at q1;rw[<-esa,<-esn,<-esc]at q0;have r1:rd (bump h 30) b (place o I 1) 1 [.slice ra rn rc]:=az hA q1;have r0:rd (bump h 30) b (place o 0 1) 1 [.slice sa sn sc]:=az hA q0;have hrl:(gt g I).length=rn:=by rw[ern];exact hg.rowN (by omega) (by omega)
 have hsl:(gt g 0).length=sn:=by rw[esn];exact hg.rowN (by omega) (by omega)
 have hl1:=hl I (by omega) (by omega);have hl0':=hl 0 (by omega) (by omega);obtain⟨R,eR⟩:∃z:Int,z=rn:=⟨_,rfl⟩;have e1:ofNat rn=R:=by rw[eR];exact aF hA rn
 obtain⟨S,eS⟩:∃z:Int,z=sn:=⟨_,rfl⟩;have e2:ofNat sn=S:=by rw[eS];exact aF hA sn
 refine hA.roundR Try.func13 r13_ok (zc ?_)
 (refine zq ?_;repeat ((first|rw[e0]);refine zq ?_))
 refine br (I<M) (by rw[au hA]) (fun _=>?_) (fun q=>by omega)<;>refine zc ?_
 (refine zq ?_;repeat ((first|rw[e1]|rw[e2]);refine zq ?_))
 refine br (R≠S) (by rw[bL hA]) (fun c4=>?_) (fun c4=>?_)<;>refine zc ?_
 ·refine zq ?_
  exact hret ⟨I,by omega,by omega,fun q=>c4 (by have:=q.1;omega)⟩ _ _ _ _ (x.trans xb)
 refine zq ?_;refine FJ hA (x:=⟨yn,yd⟩) (aw hA _) i1 i2 (fun t h1 ht x1=>⟨t,rfl,?_⟩);obtain⟨h2,eh2⟩:∃z,z=lowered (bump h 30) h1:=⟨_,rfl⟩;have x2:Ext h h2:=by rw[eh2];exact bP hA hlow xb x1
 have g2:=(hB.ext (x.trans x2)).at (i:=I) (by omega) (by omega);obtain⟨b3,o3,e3,_,q5⟩:=g2;cases e3;have q6:=q5 1 1 (by omega) (by omega);rw[<-ey]at q6;have r5:rd h2 b2 (addN (place o2 I 2) 1) 1 [.int .i64 yd]:=He hA q6;refine zq ?_;have fp:∀b0,b0<h.next->fpAll false (wrote (bump h 30) h1) false b0 (addN (next h) 30):=fun b0 hb0=>by
  rw[CL hA];refine⟨rfl,?_,.inr (by rw[cB hA,bV hA];omega)⟩;rw[sU hA];exact bT (by
   have q1:=x1.lowG;have q2:(bump h 30).next<=(fresh (bump h 30)).next:=by rw[fM hA];exact Nat.le_refl _
   have q3:(fresh (bump h 30)).low=(bump h 30).next:=by rw[fM hA];rfl
   have:Nat.min (fresh (bump h 30)).low (fresh (bump h 30)).next<=h1.low:=q1;rw[q3]at this;exact Nat.le_trans (Nat.le_min.2 ⟨Nat.le_refl _,q2⟩) this)
 cases t with
 |false=>
  have nt:¬bQ ⟨yn,yd⟩:=fun q=>by have:=ht.2 q;cases this
  rw[show bnot false=true by rw[cI hA];rfl];refine zq ?_;first|rw[<-eh2]|skip
  exact hret ⟨I,by omega,by omega,fun q=>nt (by rw[ey];exact q.2.1.1)⟩ _ _ _ _ (x.trans x2)
 |true=>
  have tt:bQ ⟨yn,yd⟩:=ht.1 rfl;rw[show bnot true=false by rw[cI hA];rfl];refine zc ?_;rw[<-eh2];refine zq ?_;refine br (60<yd) (by rw[dc hA]) (fun c5=>?_) (fun c5=>?_)<;>refine zc ?_
  ·refine zq ?_
   exact hret ⟨I,by omega,by omega,fun q=>by rw[<-ey]at q;have:=q.2.1.2;simp only at this;omega⟩ _ _ _ _ (x.trans x2)
  refine zq ?_;have gx:=hg.ext (x.trans x2);refine HZ hA gx (I:=I) (by omega) (by omega) (by omega) (fun c env=>?_) (fun c=>?_) (gt g I).length 0 0 (by omega) (by omega) rfl (fun j j0 j1=>by omega)
  ·obtain⟨j,j0,j1,j2⟩:=c
   exact hret ⟨I,by omega,by omega,fun q=>j2 (q.2.2 j j0 j1)⟩ _ _ _ _ (x.trans x2)
  refine zq ?_;rw[aB hA (by omega) (by omega)];exact ih (i+1) (I+1) h2 (by omega) (by omega) (by omega) (x.trans x2) (fun j j0 j1=>by
   by_cases e:j=I
   ·rw[e,<-ey];exact⟨by omega,⟨tt,by show yd<=60;omega⟩,c⟩
   ·exact hp j j0 (by omega))
theorem wH{h:af}(hlow:h.low<=h.next){m ac k bc:Nat}{aa ba:Option Addr}{bY:List Hd}{g:List (List Int)}{B:List Fc}(hg:vv nC 1 h aa m bY g)(hB:Rows fC 2 h ba k B)(hi:∀i:Int,0<=i->i<k->i64 (gt B i).n/\i64 (gt B i).d){Q:Value->af->Prop}
  (hQ:∀e h',hO g B e->Ext h h'->Q (.int .i64 e) h'):call 13 [.agg #[.slice aa m ac,.slice ba k bc]] h Q:=by
 have hgm:=hg.len;have hbk:=hB.len;obtain⟨M,eM⟩:∃z:Int,z=m:=⟨_,rfl⟩;have e1:ofNat m=M:=by rw[eM];exact aF hA m
 obtain⟨K,eK⟩:∃z:Int,z=k:=⟨_,rfl⟩;have e2:ofNat k=K:=by rw[eK];exact aF hA k
 refine hA.bodyR Try.func13 r13_ok (hA.alike _ _ _ rfl) hlow (zc ?_)
 (refine zq ?_;repeat ((first|rw[e1]);refine zq ?_))
 refine br (4<M) (by rw[dc hA]) (fun c=>?_) (fun c=>?_)<;>refine zc ?_
 ·refine zq ?_
  exact hQ _ _ (.inl ⟨.inl (by omega),rfl⟩) (.refl h)
 have hm4:m<=1000:=by omega
 (refine zq ?_;repeat ((first|rw[e1]);refine zq ?_))
 refine D4 hA hg hm4 (fun q env=>?_) (fun hr4=>?_) m 0 0 (by omega) (by omega) rfl (fun j j0 j1=>by omega)
 ·refine zq ?_
  obtain⟨i,i0,i1,i2⟩:=q;exact hQ _ _ (.inl ⟨.inr ⟨i,i0,by omega,i2⟩,rfl⟩) (.refl h)
 have nm:¬BW g:=fun q=>by
  rcases q with q|⟨i,i0,i1,i2⟩
  ·omega
  ·have:=hr4 i i0 (by omega);omega
 have hl:∀i:Int,0<=i->i<m->(gt g i).length<=1000:=fun i i0 i1=>by have:=hr4 i i0 i1;omega
 have bad:¬aQ g B->∀h',Ext h h'->Q (.int .i64 8) h':=fun q h' x=>hQ _ _ (.inr (.inr ⟨nm,q,rfl⟩)) x
 (refine zq ?_;repeat ((first|rw[e1]);refine zq ?_))
 refine br (M=0) (by rw[cJ hA]) (fun c0=>?_) (fun c0=>?_)<;>refine zc ?_
 ·refine zq ?_
  exact bad (fun q=>by have:=q.m1;omega) h (.refl h)
 obtain⟨b,o,rfl,hb,q0⟩:=hg.hdAt (i:=0) (by omega) (by omega);obtain⟨sa,esa⟩:∃z,z=(gt bY 0).a:=⟨_,rfl⟩;obtain⟨sn,esn⟩:∃z,z=(gt bY 0).n:=⟨_,rfl⟩;obtain⟨sc,esc⟩:∃z,z=(gt bY 0).c:=⟨_,rfl⟩;rw[<-esa,<-esn,<-esc]at q0;have r0:rd h b (place o 0 1) 1 [.slice sa sn sc]:=az hA q0;have hsl:(gt g 0).length=sn:=by rw[esn];exact hg.rowN (by omega) (by omega)
 have hl0:=hl 0 (by omega) (by omega);obtain⟨S,eS⟩:∃z:Int,z=sn:=⟨_,rfl⟩;have e3:ofNat sn=S:=by rw[eS];exact aF hA sn
 (refine zq ?_;repeat ((first|rw[e3]);refine zq ?_))
 refine br (S=0) (by rw[cJ hA]) (fun cs=>?_) (fun cs=>?_)<;>refine zc ?_
 ·refine zq ?_
  exact bad (fun q=>by have:=q.n1;omega) h (.refl h)
 (refine zq ?_;repeat ((first|rw[e1]|rw[e2]);refine zq ?_))
 refine br (K≠M) (by rw[bL hA]) (fun ck=>?_) (fun ck=>?_)<;>refine zc ?_
 ·refine zq ?_
  exact bad (fun q=>by have:=q.len;omega) h (.refl h)
 (refine zq ?_;repeat ((first|rw[e1]);refine zq ?_))
 refine EN hA hlow hg hB (by omega) hm4 (by omega) hl hi (fun q env kn T h' x=>?_) (fun hmid kn T h' x=>?_) m 0 0 h (by omega) (by omega) rfl (.refl h) (fun j j0 j1=>by omega)
 ·refine zq ?_
  obtain⟨i,i0,i1,i2⟩:=q;exact bad (fun w=>i2 ⟨w.row i i0 (by omega),w.turn i i0 (by omega),w.coef i i0 (by omega)⟩) h' x
 ·refine zq ?_
  exact hQ _ _ (.inr (.inl ⟨nm,⟨by omega,by omega,by omega,fun i i0 i1=>(hmid i i0 (by omega)).1,fun i i0 i1=>(hmid i i0 (by omega)).2.2,fun i i0 i1=>(hmid i i0 (by omega)).2.1⟩,rfl⟩)) x
