import Derived.Test.YtogliemiljhliaaRdBv
import Derived.Test.YtogliemiljhliaaRdPg
import Derived.Test.YtogliemiljhliaaRdSc
set_option linter.unusedSimpArgs false
set_option linter.unusedVariables false
namespace Go.Proofs.Ytogliemiljhliaa
open Go.Sim Ext
set_option maxRecDepth 100000
def wholeF(x:Fc):Prop:=x.d=1/\-99<=x.n/\x.n<=99
variable{F:Prims}{a0 head arith b0 c0 e0 f0 g0 l0 m0 n0 o0 p0 place r0 nz s0 rd wr t0 next u0 w0 x0 y0 z0 e1 f1 g1 h1 l1 m1 n1 o1 p1 lowered bump q1 addN lt ne r1 s1 t1 yn u1 w1 x1 y1 z1 b2:_}(hA:AP F ⟨a0,head,arith,b0,c0,e0,f0,g0,l0,m0,n0,o0,p0,place,r0,nz,s0,rd,wr,t0,next,u0,w0,x0,y0,z0,e1,f1,g1,h1,l1,m1,n1,o1,p1,lowered,bump,q1,addN,lt,ne,r1,s1,t1,yn,u1,w1,x1,y1,z1,b2⟩)
include hA
theorem bkp_loop{h0:AHeap}(hlow:h0.low<=h0.next){v0 v1 v2:Value}{ap:Option Addr}{K cp:Nat}{P:List Fc}(hp:Rows fC 2 h0 ap K P)(hK:K<=1000){Q:Exit->SS->Prop}
  (hno:∀h',Ext h0 h'->∀e kn T,Q .ret ⟨(6,.bool true) :: e,kn,T,h'⟩)
  (hok:∀h' a' c',(∀i:Int,0<=i->i<K->wholeF (gt P i))->Apd h' 1 a' K c' ((P.map Fc.n).flatMap iC)->From h0.next a'->Ext h0 h'->Q (.exit 0) ⟨[(0,v0),(1,v1),(2,v2),(7,.bool true),(8,.slice ap K cp),(10,.slice a' K c')],0,[],h'⟩) :
  ∀(m:Nat) (i:Int) (k:Nat) (h:AHeap) (a':Option Addr) (c':Nat),(K-i).toNat<=m->0<=i->i<=K->(k:Int)=i->(∀j:Int,0<=j->j<i->wholeF (gt P j))->Apd h 1 a' k c' (((P.map Fc.n).take i.toNat).flatMap iC)->From h0.next a'->Ext h0 h->
   head 9 9 0 ⟨[(0,v0),(1,v1),(2,v2),(7,.bool true),(8,.slice ap K cp),(10,.slice a' k c'),(11,.int .i64 i)],0,[],h⟩ Q:=by
 have hlen:=hp.len;refine upTo (fun m ih=>?_);intro i k h a' c' hm i0 i1 hk hw hap hf he;by_cases ci:i<K
 rotate_left
 ·obtain rfl:k=K:=by omega
  refine hA.roundR Try.func9 r9_ok (zc ?_);refine br (i<k) (by rw[e_lss hA,e_ofNat hA]) (fun c1=>absurd c1 ci) (fun c1=>?_)<;>refine zc ?_;rw[List.take_of_length_le (by rw[List.length_map];omega)]at hap;exact hok h a' c' (fun j j0 j1=>hw j j0 (by omega)) hap hf he
 obtain⟨m,rfl⟩:∃k,m=k+1:=⟨m-1,by omega⟩
 replace ih:=ih m rfl
 obtain⟨pb,po,rfl,lp,r3⟩:=(hp.ext he).at (i:=i) i0 (by omega);obtain⟨xn,xd,hx⟩:∃p q,gt P i=⟨p,q⟩:=⟨_,_,rfl⟩;rw[hx]at r3;have d0:rd h pb (addN (place po i 2) 0) 1 [.int .i64 xn]:=rd_fld hA (r3 0 1 (by omega) (by omega));have d1:rd h pb (addN (place po i 2) 1) 1 [.int .i64 xd]:=rd_fld hA (r3 1 1 (by omega) (by omega));have e2:arith .add .i64 i 1=i+1:=add64 hA (by omega) (by omega);refine hA.roundR Try.func9 r9_ok (zc ?_);refine br (i<K) (by rw[e_lss hA,e_ofNat hA]) (fun c1=>?_) (fun c1=>absurd ci c1)<;>refine zc ?_;refine zq ?_;refine br (xd≠1) (by rw[e_neq hA]) (fun c2=>?_) (fun c2=>?_)<;>refine zc ?_
 ·exact hno h he _ _ _
 refine zq ?_;refine br (xn < -99) (by rw[e_lss hA]) (fun c3=>?_) (fun c3=>?_)<;>refine zc ?_
 ·exact hno h he _ _ _
 refine zq ?_;refine br (99<xn) (by rw[e_gtr hA]) (fun c4=>?_) (fun c4=>?_)<;>refine zc ?_
 ·exact hno h he _ _ _
 refine zq ?_;refine appR_ok hA TI iC_len (by omega) iC_ok (v:=xn) hap (by omega) (fun a2 c2' h4 hp2 hx2=>?_);obtain⟨x4,hf4⟩:=hx2 h0 he hf;refine zc ?_;rw[e2];refine ih (i+1) (k+1) h4 a2 c2' (by omega) (by omega) (by omega) (by omega) (fun j j0 j1=>?_) ?_ hf4 x4
 ·by_cases q:j=i
  ·rw[q,hx];exact⟨by show xd=1;omega,by show -99<=xn;omega,by show xn<=99;omega⟩
  ·exact hw j j0 (by omega)
 ·rw[gt_take (P.map Fc.n) i0 (by rw[List.length_map];omega),gt_map Fc.n P i0 (by omega),hx]
  exact hp2
theorem bko_loop{h0:AHeap}(hlow:h0.low<=h0.next){q0 q2 q8 q13 q15:Option Addr}{n0_ c0_ n2_ c2_ n8_ c8_ n13_ c13_ n15_ c15_:Nat}{au av:Option Addr}{K cu cv:Nat}{U V W:List Fc}(hu:Rows fC 2 h0 au K U)(hv:Rows fC 2 h0 av K V)(hK:K<=1000){qu qv:Int->Rat}(iu:∀i:Int,0<=i->i<K->isF (gt U i).n (gt U i).d (qu i))(iv:∀i:Int,0<=i->i<K->isF (gt V i).n (gt V i).d (qv i))(ft:∀i:Int,0<=i->i<K->fits (qu i-qv i))(wl:W.length=K)(hw:∀i:Int,0<=i->i<K->gt W i=asF (qu i-qv i)){k0:Nat}(hk0:k0<=1000){L0:List Fc}{Q:Exit->SS->Prop}
  (hok:∀h' a' n' c',n'=k0+K->Apd h' 2 a' n' c' ((L0++W).flatMap fC)->From h0.next a'->Ext h0 h'->Q (.exit 2) ⟨[(0,.slice q0 n0_ c0_),(2,.slice q2 n2_ c2_),(7,.bool true),(8,.slice q8 n8_ c8_),(12,.slice av K cv),(13,.slice q13 n13_ c13_),(15,.slice q15 n15_ c15_),(17,.slice a' n' c')],0,[],h'⟩) :
  ∀(m:Nat) (i:Int) (k:Nat) (h:AHeap) (a':Option Addr) (c':Nat),(K-i).toNat<=m->0<=i->i<=K->(k:Int)=k0+i->Apd h 2 a' k c' ((L0++W.take i.toNat).flatMap fC)->From h0.next a'->Ext h0 h->
   head 9 22 0 ⟨[(0,.slice q0 n0_ c0_),(1,.slice au K cu),(2,.slice q2 n2_ c2_),(7,.bool true),(8,.slice q8 n8_ c8_),(12,.slice av K cv),(13,.slice q13 n13_ c13_),(15,.slice q15 n15_ c15_),(17,.slice a' k c'),(18,.int .i64 i)],0,[],h⟩ Q:=by
 have ulen:=hu.len;have vlen:=hv.len;refine upTo (fun m ih=>?_);intro i k h a' c' hm i0 i1 hk hap hf he;by_cases ci:i<K
 rotate_left
 ·refine hA.roundR Try.func9 r9_ok (zc ?_)
  refine br (i<K) (by rw[e_lss hA,e_ofNat hA]) (fun c1=>absurd c1 ci) (fun c1=>?_)<;>refine zc ?_;rw[List.take_of_length_le (by omega)]at hap;exact hok h a' k c' (by omega) hap hf he
 obtain⟨m,rfl⟩:∃k,m=k+1:=⟨m-1,by omega⟩
 replace ih:=ih m rfl
 obtain⟨h9,hh9⟩:∃z,z=bump h 15:=⟨_,rfl⟩;have e9:Ext h h9:=by rw[hh9];exact ext_bump hA _ _
 have y9:=he.trans e9;obtain⟨ub,uo,rfl,_,ru⟩:=(hu.ext y9).at (i:=i) i0 (by omega);obtain⟨vb,vo,rfl,_,rv⟩:=(hv.ext y9).at (i:=i) i0 (by omega);have ju:=iu i i0 ci;have jv:=iv i i0 ci;have jf:=ft i i0 ci;have jw:=hw i i0 ci;obtain⟨un,ud,hxu⟩:∃p q,gt U i=⟨p,q⟩:=⟨_,_,rfl⟩;obtain⟨vn,vd,hxv⟩:∃p q,gt V i=⟨p,q⟩:=⟨_,_,rfl⟩;rw[hxu]at ru ju;rw[hxv]at rv jv;have du:rd h9 ub (place uo i 2) 2 [.int .i64 un,.int .i64 ud]:=rd_ok hA (ru 0 2 (by omega) (by omega));have dv:rd h9 vb (place vo i 2) 2 [.int .i64 vn,.int .i64 vd]:=rd_ok hA (rv 0 2 (by omega) (by omega));have e2:arith .add .i64 i 1=i+1:=add64 hA (by omega) (by omega);refine hA.roundR Try.func9 r9_ok (zc ?_);refine br (i<K) (by rw[e_lss hA,e_ofNat hA]) (fun c1=>?_) (fun c1=>absurd ci c1)<;>refine zc ?_;rw[<-hh9];refine zq ?_;refine rsub_ok hA (low_fresh hA h9) ju.i64n ju.i64d jv.i64n jv.i64d (fun a1 b1 r k1 hz ez=>⟨_,_,_,rfl,?_⟩);obtain⟨j1,rfl⟩:=opIs_of ju jv jf k1;have ea:(⟨a1,b1⟩:Fc)=gt W i:=by rw[jw];exact asF_is j1
 obtain⟨hX,hhX⟩:∃z,z=lowered h9 hz:=⟨_,rfl⟩;have eX:Ext h hX:=by rw[hhX];exact ext_low hA (he.lowOK hlow) e9 ez
 have yX:=he.trans eX;refine zc ?_;rw[<-hhX];refine zq ?_;refine appR_ok hA TF fC_len (by omega) fC_ok (v:=⟨a1,b1⟩) (hap.ext eX) (by omega) (fun a2 c2 h4 hp2 hx2=>?_);obtain⟨x4,hf4⟩:=hx2 h0 yX hf;refine zc ?_;rw[e2];refine ih (i+1) (k+1) h4 a2 c2 (by omega) (by omega) (by omega) (by omega) ?_ hf4 x4;rw[gt_take W i0 (by omega),<-List.append_assoc,<-ea];exact hp2
theorem bks_loop{h0:AHeap}(hlow:h0.low<=h0.next){q0 q8 q12 q15:Option Addr}{n0_ c0_ n8_ c8_ n12_ c12_ n15_ c15_:Nat}{au av:Option Addr}{K cu cv:Nat}{U V W:List Fc}(hu:Rows fC 2 h0 au K U)(hv:Rows fC 2 h0 av K V)(hK:K<=1000){qu qv:Int->Rat}(iu:∀i:Int,0<=i->i<K->isF (gt U i).n (gt U i).d (qu i))(iv:∀i:Int,0<=i->i<K->isF (gt V i).n (gt V i).d (qv i))(ft:∀i:Int,0<=i->i<K->fits (qu i-qv i))(wl:W.length=K)(hw:∀i:Int,0<=i->i<K->gt W i=asF (qu i-qv i)){k0:Nat}(hk0:k0<=1000){L0:List Fc}{Q:Exit->SS->Prop}
  (hok:∀h' a' n' c',n'=k0+K->Apd h' 2 a' n' c' ((L0++W).flatMap fC)->From h0.next a'->Ext h0 h'->Q (.exit 4) ⟨[(0,.slice q0 n0_ c0_),(7,.bool true),(8,.slice q8 n8_ c8_),(12,.slice q12 n12_ c12_),(13,.slice av K cv),(15,.slice q15 n15_ c15_),(17,.slice a' n' c')],0,[],h'⟩) :
  ∀(m:Nat) (i:Int) (k:Nat) (h:AHeap) (a':Option Addr) (c':Nat),(K-i).toNat<=m->0<=i->i<=K->(k:Int)=k0+i->Apd h 2 a' k c' ((L0++W.take i.toNat).flatMap fC)->From h0.next a'->Ext h0 h->
   head 9 27 0 ⟨[(0,.slice q0 n0_ c0_),(2,.slice au K cu),(7,.bool true),(8,.slice q8 n8_ c8_),(12,.slice q12 n12_ c12_),(13,.slice av K cv),(15,.slice q15 n15_ c15_),(17,.slice a' k c'),(21,.int .i64 i)],0,[],h⟩ Q:=by
 have ulen:=hu.len;have vlen:=hv.len;refine upTo (fun m ih=>?_);intro i k h a' c' hm i0 i1 hk hap hf he;by_cases ci:i<K
 rotate_left
 ·refine hA.roundR Try.func9 r9_ok (zc ?_)
  refine br (i<K) (by rw[e_lss hA,e_ofNat hA]) (fun c1=>absurd c1 ci) (fun c1=>?_)<;>refine zc ?_;rw[List.take_of_length_le (by omega)]at hap;exact hok h a' k c' (by omega) hap hf he
 obtain⟨m,rfl⟩:∃k,m=k+1:=⟨m-1,by omega⟩
 replace ih:=ih m rfl
 obtain⟨h9,hh9⟩:∃z,z=bump h 15:=⟨_,rfl⟩;have e9:Ext h h9:=by rw[hh9];exact ext_bump hA _ _
 have y9:=he.trans e9;obtain⟨ub,uo,rfl,_,ru⟩:=(hu.ext y9).at (i:=i) i0 (by omega);obtain⟨vb,vo,rfl,_,rv⟩:=(hv.ext y9).at (i:=i) i0 (by omega);have ju:=iu i i0 ci;have jv:=iv i i0 ci;have jf:=ft i i0 ci;have jw:=hw i i0 ci;obtain⟨un,ud,hxu⟩:∃p q,gt U i=⟨p,q⟩:=⟨_,_,rfl⟩;obtain⟨vn,vd,hxv⟩:∃p q,gt V i=⟨p,q⟩:=⟨_,_,rfl⟩;rw[hxu]at ru ju;rw[hxv]at rv jv;have du:rd h9 ub (place uo i 2) 2 [.int .i64 un,.int .i64 ud]:=rd_ok hA (ru 0 2 (by omega) (by omega));have dv:rd h9 vb (place vo i 2) 2 [.int .i64 vn,.int .i64 vd]:=rd_ok hA (rv 0 2 (by omega) (by omega));have e2:arith .add .i64 i 1=i+1:=add64 hA (by omega) (by omega);refine hA.roundR Try.func9 r9_ok (zc ?_);refine br (i<K) (by rw[e_lss hA,e_ofNat hA]) (fun c1=>?_) (fun c1=>absurd ci c1)<;>refine zc ?_;rw[<-hh9];refine zq ?_;refine rsub_ok hA (low_fresh hA h9) ju.i64n ju.i64d jv.i64n jv.i64d (fun a1 b1 r k1 hz ez=>⟨_,_,_,rfl,?_⟩);obtain⟨j1,rfl⟩:=opIs_of ju jv jf k1;have ea:(⟨a1,b1⟩:Fc)=gt W i:=by rw[jw];exact asF_is j1
 obtain⟨hX,hhX⟩:∃z,z=lowered h9 hz:=⟨_,rfl⟩;have eX:Ext h hX:=by rw[hhX];exact ext_low hA (he.lowOK hlow) e9 ez
 have yX:=he.trans eX;refine zc ?_;rw[<-hhX];refine zq ?_;refine appR_ok hA TF fC_len (by omega) fC_ok (v:=⟨a1,b1⟩) (hap.ext eX) (by omega) (fun a2 c2 h4 hp2 hx2=>?_);obtain⟨x4,hf4⟩:=hx2 h0 yX hf;refine zc ?_;rw[e2];refine ih (i+1) (k+1) h4 a2 c2 (by omega) (by omega) (by omega) (by omega) ?_ hf4 x4;rw[gt_take W i0 (by omega),<-List.append_assoc,<-ea];exact hp2
theorem bkl_loop{h:AHeap}{q0 q8 q12 q13 q17:Option Addr}{n0_ c0_ n8_ c8_ n12_ c12_ n13_ c13_ n17_ c17_:Nat}{ab:Option Addr}{K cb:Nat}{hs:List Hd}{g:List (List Fc)}(hg:GrR fC 2 h ab K hs g)(hK:K<=1000)(gl:∀r,r∈g->r.length=n17_){Q:Exit->SS->Prop}
  (hok:Q (.exit 6) ⟨[(0,.slice q0 n0_ c0_),(7,.bool true),(8,.slice q8 n8_ c8_),(12,.slice q12 n12_ c12_),(13,.slice q13 n13_ c13_),(15,.slice ab K cb),(17,.slice q17 n17_ c17_)],0,[],h⟩) :
  ∀(m:Nat) (i:Int),(K-i).toNat<=m->0<=i->i<=K->
   head 9 32 0 ⟨[(0,.slice q0 n0_ c0_),(7,.bool true),(8,.slice q8 n8_ c8_),(12,.slice q12 n12_ c12_),(13,.slice q13 n13_ c13_),(15,.slice ab K cb),(17,.slice q17 n17_ c17_),(24,.int .i64 i)],0,[],h⟩ Q:=by
 refine upTo (fun m ih=>?_);intro i hm i0 i1;by_cases ci:i<K
 rotate_left
 ·refine hA.roundR Try.func9 r9_ok (zc ?_)
  refine br (i<K) (by rw[e_lss hA,e_ofNat hA]) (fun c1=>absurd c1 ci) (fun c1=>?_)<;>refine zc ?_;exact hok
 obtain⟨m,rfl⟩:∃k,m=k+1:=⟨m-1,by omega⟩
 replace ih:=ih m rfl
 obtain⟨gb,go,rfl,_⟩:=hg.some (by omega);have d1:=gr_head hA hg i0 ci;have R1:=hg.row i i0 ci;have ll:=gl _ (gt_mem g i0 (by have:=hg.len;omega));rw[R1.len]at ll;obtain⟨⟨va,vn,vc⟩,hv⟩:∃z,z=gt hs i:=⟨_,rfl⟩;rw[<-hv]at d1 ll;simp only at d1 ll;have e2:arith .add .i64 i 1=i+1:=add64 hA (by omega) (by omega);refine hA.roundR Try.func9 r9_ok (zc ?_);refine br (i<K) (by rw[e_lss hA,e_ofNat hA]) (fun c1=>?_) (fun c1=>absurd ci c1)<;>refine zc ?_;refine zq ?_;refine br ((vn:Int)≠n17_) (by rw[e_neq hA,e_ofNat hA,e_ofNat hA]) (fun q=>by omega) (fun _=>?_)<;>refine zc ?_;rw[e2];exact ih (i+1) (by omega) (by omega) (by omega)
