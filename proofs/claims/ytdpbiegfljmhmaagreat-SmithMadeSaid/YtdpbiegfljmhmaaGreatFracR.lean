import Derived.Test.YtdpbiegfljmhmaaGreatFracA
import Derived.Test.YtdpbiegfljmhmaaGreatSymBits
set_option linter.unusedSimpArgs false
set_option linter.unusedVariables false
namespace Go.Proofs.YtdpbiegfljmhmaaGreat
open Go.cS
set_option maxRecDepth 100000
structure pV(N d0 d1 d2 d3:Int):Prop where
 eq:N=d0+4294967296*d1+18446744073709551616*d2+79228162514264337593543950336*d3
 r0:0<=d0/\d0<4294967296
 r1:0<=d1/\d1<4294967296
 r2:0<=d2/\d2<4294967296
 r3:0<=d3/\d3<4294967296
theorem no{P:Prop}(h:¬P):(false=true)↔P:=⟨(fun q=>by cases q),fun q=>absurd q h⟩
structure zF(h0 h:af)(ba bb:Nat)(A B:List Int):Prop where
 ext:Ext h0 h
 oa:bW h ba 4 (A.map (.int .u64))
 ob:bW h bb 4 (B.map (.int .u64))
 la:h0.next<=ba/\ba<h.next
 lb:bb<h.next
 ne:bb≠ba
 len:A.length=4/\B.length=4
theorem zF.more{h0 h h':af}{ba bb:Nat}{A B:List Int}(t:zF h0 h ba bb A B)(e:Ext h h'):zF h0 h' ba bb A B:=
 ⟨t.ext.trans e,t.oa.ext e t.la.2,t.ob.ext e t.lb,⟨t.la.1,Nat.lt_of_lt_of_le t.la.2 e.next⟩,Nat.lt_of_lt_of_le t.lb e.next,t.ne,t.len⟩
theorem zF.put{h0 h:af}{ba bb:Nat}{A B:List Int}(t:zF h0 h ba bb A B){i:Nat}(hi:i<4)(v:Int):∃h',h.write ba i [.int .u64 v]=some h'/\zF h0 h' ba bb (A.set i v) B:=by
 obtain⟨h',w1,w2,w3⟩:=t.oa.setInt (i:=i) (by rw[t.len.1];exact hi) v;exact⟨h',w1,w3.ext t.ext t.la.1,w2,w3.own t.ob t.ne,by rw[w3.next];exact t.la,by rw[w3.next];exact t.lb,t.ne,by simpa using t.len⟩
variable{F:aZ}{call head arith cmp e0 dH jz conv neg f0 l0 m0 o0 place p0 nz q0 rd wr push next i2 j2 i3 j3 l3 n3 o3 z3 a4 d4 i4 j4 l4 fresh az aG wrote bX lt ne n4 o4 u4 yn y4 z4 a5 d5 i5 j5:_}(hA:AP F ⟨call,head,arith,cmp,e0,dH,jz,conv,neg,f0,l0,m0,o0,place,p0,nz,q0,rd,wr,push,next,i2,j2,i3,j3,l3,n3,o3,z3,a4,d4,i4,j4,l4,fresh,az,aG,wrote,bX,lt,ne,n4,o4,u4,yn,y4,z4,a5,d5,i5,j5⟩)
include hA
theorem n8{h:af}(aq:h.low<=h.next){n:Int}(hn:i64 n){Q:Value->af->Prop}(hQ:∀s:Int,s=n.natAbs->Q (.int .u64 s) h):call 56 [.int .i64 n] h Q:=by
 obtain⟨h0,h1⟩:=hn;refine hA.aN Tryz.func56 x56.2 (hA.alike _ _ _ rfl) aq (zc ?_);refine br (0<=n) (by rw[bY hA]) (fun c=>?_) (fun c=>?_)<;>refine zc ?_
 ·exact hQ _ (by rw[rO hA,nV];omega)
 ·have e1:arith .add .i64 n 1=n+1:=aF hA om om
  have e2:neg .i64 (n+1)=-(n+1):=by rw[vc hA,wrap64 om om];omega
  have e3:conv .u64 (-(n+1))=-(n+1):=mj hA om om;have e4:arith .add .u64 (-(n+1)) 1=-(n+1)+1:=mE hA om om;refine hQ _ ?_;rw[e1,e2,e3,e4];omega
theorem kX{h:af}(aq:h.low<=h.next){n d:Int}(hn:i64 n)(hd:i64 d){Q:Value->af->Prop}
  (hQ:∀(e:Int) h',(e=0/\okF n d)\/(e=8/\¬okF n d)->Ext h h'->Q (.int .i64 e) h'):call 40 [.agg #[.int .i64 n,.int .i64 d]] h Q:=by
 have bad:¬(1<=d/\d<=1000000000000000000/\-1000000000000000000<=n/\n<=1000000000000000000/\Int.gcd n d=1)->¬okF n d:=fun w q=>w ((sY n d).1 q)
 refine hA.aN Tryz.func40 x40.2 (hA.alike _ _ _ rfl) aq (zc ?_);obtain⟨h9,iT⟩:∃z,z=aG h 28:=⟨_,rfl⟩;have e9:Ext h h9:=by rw[iT];exact au hA _ _
 have l9:=e9.aC aq;rw[<-iT];refine br (d<1) (by rw[aA hA]) (fun c1=>?_) (fun c1=>?_)<;>refine zc ?_
 ·exact hQ _ _ (.inr ⟨rfl,bad om⟩) e9
 refine br (1000000000000000000<d) (by rw[dc hA]) (fun c2=>?_) (fun c2=>?_)<;>refine zc ?_
 ·exact hQ _ _ (.inr ⟨rfl,bad om⟩) e9
 refine br (n < -1000000000000000000) (by rw[aA hA]) (fun c3=>?_) (fun c3=>?_)<;>refine zc ?_
 ·exact hQ _ _ (.inr ⟨rfl,bad om⟩) e9
 refine br (1000000000000000000<n) (by rw[dc hA]) (fun c4=>?_) (fun c4=>?_)<;>refine zc ?_
 ·exact hQ _ _ (.inr ⟨rfl,bad om⟩) e9
 refine zc ?_;have ud:u64 d:=by unfold u64;omega
 rw[mj hA ud.1 ud.2];refine n8 hA (aB hA h9) hn (fun s hs=>⟨_,rfl,?_⟩);refine zc ?_;rw[bR hA l9];refine n7 hA (aB hA h9) (by unfold u64;omega) ud (fun g hg hz ez=>⟨_,rfl,?_⟩);refine zc ?_;obtain⟨hX,Gb⟩:∃z,z=az h9 hz:=⟨_,rfl⟩;have eX:Ext h hX:=by rw[Gb];exact cI hA aq e9 ez
 rw[<-Gb];have Y7:g=Int.gcd n d:=by
  rw[hg,hs];rfl
 refine br (g≠1) (by rw[bT hA]) (fun c5=>?_) (fun c5=>?_)<;>refine zc ?_
 ·exact hQ _ _ (.inr ⟨rfl,bad om⟩) eX
 ·exact hQ _ _ (.inl ⟨rfl,(sY n d).2 om⟩) eX
theorem m7{h:af}(aq:h.low<=h.next){n d m e:Int}(hn:i64 n)(hd:i64 d)(hm:i64 m)(he:i64 e){Q:Value->af->Prop}
  (hQ:∀(r:Int) h',(r=0/\okF n d/\okF m e)\/(r=8/\¬(okF n d/\okF m e))->Ext h h'->Q (.int .i64 r) h'):call 33 [.agg #[.int .i64 n,.int .i64 d],.agg #[.int .i64 m,.int .i64 e]] h Q:=by
 refine hA.aN Tryz.func33 x33.2 (hA.alike _ _ _ rfl) aq (zc ?_);refine kX hA aq hn hd (fun r1 h1 k1 x1=>⟨_,rfl,?_⟩);refine zc ?_;refine br (r1≠0) (by rw[bT hA]) (fun c1=>?_) (fun c1=>?_)<;>refine zc ?_
 ·refine kX hA (x1.aC aq) hn hd (fun r3 h3 k3 x3=>⟨_,rfl,?_⟩)
  refine zc ?_;rcases k1 with ⟨q,_⟩|⟨rfl,q⟩
  ·exact absurd q c1
  ·rcases k3 with ⟨_,q3⟩|⟨rfl,_⟩
   ·exact absurd q3 q
   ·exact hQ _ _ (.inr ⟨rfl,fun w=>q w.1⟩) (x1.trans x3)
 refine kX hA (x1.aC aq) hm he (fun r2 h2 k2 x2=>⟨_,rfl,?_⟩);refine zc ?_;rcases k1 with ⟨_,q1⟩|⟨q,_⟩
 ·rcases k2 with ⟨rfl,q2⟩|⟨rfl,q2⟩
  ·exact hQ _ _ (.inl ⟨rfl,q1,q2⟩) (x1.trans x2)
  ·exact hQ _ _ (.inr ⟨rfl,fun w=>q2 w.2⟩) (x1.trans x2)
 ·omega
theorem Mo{h:af}(aq:h.low<=h.next){n:Int}(hn:u64 n){Q:Value->af->Prop}(hQ:∀a b:Int,a=n % 4294967296->b=n / 4294967296->Q (.agg #[.int .u64 a,.int .u64 b,.int .u64 0,.int .u64 0]) h):call 77 [.int .u64 n] h Q:=by
 refine hA.aN Tryz.func77 x77.2 (hA.alike _ _ _ rfl) aq (zc ?_);refine⟨fu hA om,?_⟩;refine zc ?_;refine hQ _ _ (nY hA hn.1 hn.2) (pO hA hn.1)
structure yC(h0 h:af)(bx by_ bo:Nat)(X Y O:List Int):Prop where
 ext:Ext h0 h
 ox:bW h bx 4 (X.map (.int .u64))
 oy:bW h by_ 4 (Y.map (.int .u64))
 oo:bW h bo 4 (O.map (.int .u64))
 lx:bx<h.next
 ly:by_<h.next
 lo:h0.next<=bo/\bo<h.next
 nx:bx≠bo
 ny:by_≠bo
 len:X.length=4/\Y.length=4/\O.length=4
omit hA in
theorem yC.more{h0 h h':af}{bx by_ bo:Nat}{X Y O:List Int}(t:yC h0 h bx by_ bo X Y O)(e:Ext h h'):yC h0 h' bx by_ bo X Y O:=
 ⟨t.ext.trans e,t.ox.ext e t.lx,t.oy.ext e t.ly,t.oo.ext e t.lo.2,Nat.lt_of_lt_of_le t.lx e.next,Nat.lt_of_lt_of_le t.ly e.next,⟨t.lo.1,Nat.lt_of_lt_of_le t.lo.2 e.next⟩,t.nx,t.ny,t.len⟩
omit hA in
theorem yC.put{h0 h:af}{bx by_ bo:Nat}{X Y O:List Int}(t:yC h0 h bx by_ bo X Y O){i:Nat}(hi:i<4)(v:Int):∃h',h.write bo i [.int .u64 v]=some h'/\yC h0 h' bx by_ bo X Y (O.set i v):=by
 obtain⟨h',w1,w2,w3⟩:=t.oo.setInt (i:=i) (by rw[t.len.2.2];exact hi) v;exact⟨h',w1,w3.ext t.ext t.lo.1,w3.own t.ox t.nx,w3.own t.oy t.ny,w2,by rw[w3.next];exact t.lx,by rw[w3.next];exact t.ly,by rw[w3.next];exact t.lo,t.nx,t.ny,by simpa using t.len⟩
theorem At{h0 h:af}{bx by_ bo:Nat}{X Y O:List Int}(t:yC h0 h bx by_ bo X Y O){i k c:Int}(i0:0<=i)(i1:i<2)(k0:0<=k)(k1:k<2){K:List Value}{Q:Exit->SS->Prop}
  (hm:arith .mul .u64 (dV X i) (dV Y k)=dV X i*dV Y k) {w:Int} (hw:w=c+(dV O (i+k)+dV X i*dV Y k)) (kx:0<=c) (oA:0<=dV O (i+k)+dV X i*dV Y k) (o7:w<18446744073709551616)
  (hQ:∀h',yC h0 h' bx by_ bo X Y (O.set (i+k).toNat (w % 4294967296))->head 55 8 1 ⟨[(4,.pointer (some ⟨0,0,some 0⟩)),(5,.pointer (some ⟨bx,0,none⟩)),(6,.pointer (some ⟨by_,0,none⟩)),(7,.pointer (some ⟨bo,0,none⟩)),(8,.int .i64 i),(9,.int .u64 (w / 4294967296)),(10,.int .i64 (k+1))],1,[(0,K)],h'⟩ Q) :
  head 55 8 1 ⟨[(4,.pointer (some ⟨0,0,some 0⟩)),(5,.pointer (some ⟨bx,0,none⟩)),(6,.pointer (some ⟨by_,0,none⟩)),(7,.pointer (some ⟨bo,0,none⟩)),(8,.int .i64 i),(9,.int .u64 c),(10,.int .i64 k)],1,[(0,K)],h⟩ Q:=by
 refine hA.ar Tryz.func55 x55.2 (zc ?_);refine br (k<2) (by rw[aA hA]) (fun _=>?_) (fun q=>absurd k1 q)<;>refine zc ?_;have Xq:arith .add .i64 i k=i+k:=aF hA om om;obtain⟨j,hj⟩:∃z,z=i+k:=⟨_,rfl⟩;rw[Xq,<-hj];rw[<-hj]at hw oA hQ;obtain⟨h9,iT⟩:∃z,z=aG h 19:=⟨_,rfl⟩;have e9:Ext h h9:=by rw[iT];exact au hA _ _
 have t9:=t.more e9;rw[<-iT];have Zn:∀(b:Nat) (l:List Int) (z:Int),bW h9 b 4 (l.map (.int .u64))->l.length=4->0<=z->z<4->rd h9 b (place (bX 0 0) z 1) 1 [.int .u64 (dV l z)]:=by
  intro b l z ho hl z0 z1;rw[Bv hA,fR hA,dj hA];have:=ho.getInt (i:=z.toNat) om;rw[show 0+0+z.toNat*1=z.toNat by omega];exact this
 have r1:=Zn bo O j t9.oo t9.len.2.2 om om;have r2:=Zn bx X i t9.ox t9.len.1 om om;have r3:=Zn by_ Y k t9.oy t9.len.2.1 om om;have pj:place (bX 0 0) j 1=j.toNat:=by rw[fR hA,dj hA];omega
 generalize dV O j=o at *;generalize dV X i=x at *;generalize dV Y k=y at *;refine⟨kE hA om om,?_⟩;refine zc ?_;refine⟨o,r1,?_⟩;refine zc ?_;refine⟨kE hA i0 om,?_⟩;refine zc ?_;refine⟨x,r2,?_⟩;refine zc ?_;refine⟨kE hA k0 om,?_⟩;refine zc ?_;refine⟨y,r3,?_⟩;refine zc ?_;have ea:arith .add .u64 o (x*y)=o+x*y:=mE hA oA om;have eb:arith .add .u64 c (o+x*y)=w:=by rw[mE hA om om,hw]
 rw[hm,ea,eb,Xq,<-hj];refine⟨kE hA om om,?_⟩;refine zc ?_;have Jp:0<=w:=om
 rw[nY hA Jp o7];obtain⟨h',p1,p2⟩:=t9.put (i:=j.toNat) om (w % 4294967296);rw[pj];obtain⟨v,hv⟩:∃z,z=w % 4294967296:=⟨_,rfl⟩;rw[<-hv]at p1 p2 ⊢;refine⟨h',kF hA p1,?_⟩;refine zc ?_;refine⟨fu hA om,?_⟩;refine zc ?_;rw[pO hA Jp,aF hA om om];exact hQ h' (by rw[<-hv];exact p2)
theorem yD{h0 h:af}{bx by_ bo:Nat}{X Y O:List Int}(t:yC h0 h bx by_ bo X Y O){i:Int}(i0:0<=i)(i1:i<2){K:List Value}{Q:Exit->SS->Prop}{w1 w2 v:Int}{O1 O2 O3:List Int}
  (m1:arith .mul .u64 (dV X i) (dV Y 0)=dV X i*dV Y 0) (m2:arith .mul .u64 (dV X i) (dV Y 1)=dV X i*dV Y 1)
  (oA:w1=0+(dV O (i+0)+dV X i*dV Y 0)) (Xr:O1=O.set (i+0).toNat (w1 % 4294967296)) (o7:w2=w1 / 4294967296+(dV O1 (i+1)+dV X i*dV Y 1)) (Xs:O2=O1.set (i+1).toNat (w2 % 4294967296)) (hv:v=dV O2 (i+2)+w2 / 4294967296) (QR:O3=O2.set (i+2).toNat v)
  (b1:0<=dV O (i+0)+dV X i*dV Y 0) (b2:w1<18446744073709551616) (b3:0<=dV O1 (i+1)+dV X i*dV Y 1) (b4:w2<18446744073709551616) (b5:0<=dV O2 (i+2)) (b6:v<18446744073709551616)
  (hQ:∀h',yC h0 h' bx by_ bo X Y O3->head 55 4 1 ⟨[(4,.pointer (some ⟨0,0,some 0⟩)),(5,.pointer (some ⟨bx,0,none⟩)),(6,.pointer (some ⟨by_,0,none⟩)),(7,.pointer (some ⟨bo,0,none⟩)),(8,.int .i64 (i+1))],1,[(0,K)],h'⟩ Q) :
  head 55 4 1 ⟨[(4,.pointer (some ⟨0,0,some 0⟩)),(5,.pointer (some ⟨bx,0,none⟩)),(6,.pointer (some ⟨by_,0,none⟩)),(7,.pointer (some ⟨bo,0,none⟩)),(8,.int .i64 i)],1,[(0,K)],h⟩ Q:=by
 refine hA.ar Tryz.func55 x55.2 (zc ?_);refine br (i<2) (by rw[aA hA]) (fun _=>?_) (fun q=>absurd i1 q)<;>refine zc ?_;refine At hA t i0 i1 (k:=0) (c:=0) om om m1 oA om b1 b2 (fun h1 t1=>?_);rw[<-Xr]at t1;rw[show(0:Int)+1=1 from rfl];refine At hA t1 i0 i1 (k:=1) (c:=w1 / 4294967296) om om m2 o7 om b3 b4 (fun h2 t2=>?_);rw[<-Xs]at t2;rw[show(1:Int)+1=2 from rfl];obtain⟨c2,hc2⟩:∃z,z=w2 / 4294967296:=⟨_,rfl⟩;rw[<-hc2]at hv ⊢;refine hA.ar Tryz.func55 x55.2 (zc ?_);refine br (False) (by rw[aA hA];rfl) (fun q=>q.elim) (fun _=>?_)<;>refine zc ?_;have Xq:arith .add .i64 i 2=i+2:=aF hA om om;obtain⟨j,hj⟩:∃z,z=i+2:=⟨_,rfl⟩;rw[Xq,<-hj];rw[<-hj]at hv QR b5;refine⟨kE hA om om,?_⟩;refine zc ?_;have pj:place (bX 0 0) j 1=j.toNat:=by rw[fR hA,dj hA];omega
 have r1:rd h2 bo (place (bX 0 0) j 1) 1 [.int .u64 (dV O2 j)]:=by
  rw[pj,Bv hA];exact t2.oo.getInt (i:=j.toNat) (by have:=t2.len.2.2;omega)
 obtain⟨o,ho⟩:∃z,z=dV O2 j:=⟨_,rfl⟩;rw[<-ho]at r1 hv b5;refine⟨o,r1,?_⟩;refine zc ?_;have tJ:0<=c2:=om
 rw[mE hA om om,<-hv];refine⟨kE hA om om,?_⟩;refine zc ?_;obtain⟨h',p1,p2⟩:=t2.put (i:=j.toNat) om v;rw[pj];refine⟨h',kF hA p1,?_⟩;refine zc ?_;rw[aF hA om om];exact hQ h' (by rw[QR];exact p2)
theorem gW{h:af}(aq:h.low<=h.next){x y:Int}(hx:u64 x)(hy:u64 y){Q:Value->af->Prop}
  (hQ:∀d0 d1 d2 d3 h',pV (x*y) d0 d1 d2 d3->Ext h h'->Q (.agg #[.int .u64 d0,.int .u64 d1,.int .u64 d2,.int .u64 d3]) h'):call 55 [.int .u64 x,.int .u64 y] h Q:=by
 refine hA.aN Tryz.func55 x55.2 (hA.alike _ _ _ rfl) aq (zc ?_);refine Mo hA aq hx (fun x0 x1 Sf zS=>⟨_,_,_,_,rfl,?_⟩);refine zc ?_;refine Mo hA aq hy (fun y0 y1 NU Lp=>⟨_,_,_,_,rfl,?_⟩);refine zc ?_;rw[cM hA,df hA,cM hA,df hA];have e1:Ext h (h.push 4 [Value.int .u64 0,Value.int .u64 0,Value.int .u64 0,Value.int .u64 0]):=.push _ _ _;have o1:bW (h.push 4 [Value.int .u64 0,Value.int .u64 0,Value.int .u64 0,Value.int .u64 0]) h.next 4 [Value.int .u64 0,Value.int .u64 0,Value.int .u64 0,Value.int .u64 0]:=bW.push _ _ _;have n1:(h.push 4 [Value.int .u64 0,Value.int .u64 0,Value.int .u64 0,Value.int .u64 0]).next=h.next+1:=rfl;generalize h.push 4 [Value.int .u64 0,Value.int .u64 0,Value.int .u64 0,Value.int .u64 0]=h1 at *;have e2:Ext h1 (h1.push 4 [Value.int .u64 0,Value.int .u64 0,Value.int .u64 0,Value.int .u64 0]):=.push _ _ _;have o2:bW (h1.push 4 [Value.int .u64 0,Value.int .u64 0,Value.int .u64 0,Value.int .u64 0]) h1.next 4 [Value.int .u64 0,Value.int .u64 0,Value.int .u64 0,Value.int .u64 0]:=bW.push _ _ _;have n2:(h1.push 4 [Value.int .u64 0,Value.int .u64 0,Value.int .u64 0,Value.int .u64 0]).next=h1.next+1:=rfl;generalize h1.push 4 [Value.int .u64 0,Value.int .u64 0,Value.int .u64 0,Value.int .u64 0]=h2 at *;obtain⟨bx,hbx⟩:∃z,z=h.next:=⟨_,rfl⟩;obtain⟨by_,qY⟩:∃z,z=h1.next:=⟨_,rfl⟩;rw[<-hbx]at o1;rw[<-qY]at o2;rw[<-hbx,<-qY];have Xt:=o1.ext e2 om;obtain⟨h3,w1,p1,q1⟩:=Xt.write (o:=0) (vs:=[.int .u64 x0,.int .u64 x1,.int .u64 0,.int .u64 0]) (by simp);refine⟨h3,kF hA w1,?_⟩;refine zc ?_;have p2:=q1.own (o2.ext (.refl h2) om) (by omega:by_≠bx);obtain⟨h4,w2,p3,q2⟩:=p2.write (o:=0) (vs:=[.int .u64 y0,.int .u64 y1,.int .u64 0,.int .u64 0]) (by simp);refine⟨h4,kF hA w2,?_⟩;refine zc ?_;have p4:=q2.own p1 (by omega:bx≠by_);have m1:=q1.next;have m2:=q2.next;have e4:Ext h h4:=q2.ext (q1.ext (e1.trans e2) om) om;rw[cM hA,df hA];have e5:Ext h4 (h4.push 4 [Value.int .u64 0,Value.int .u64 0,Value.int .u64 0,Value.int .u64 0]):=.push _ _ _;have o5:bW (h4.push 4 [Value.int .u64 0,Value.int .u64 0,Value.int .u64 0,Value.int .u64 0]) h4.next 4 [Value.int .u64 0,Value.int .u64 0,Value.int .u64 0,Value.int .u64 0]:=bW.push _ _ _;have n5:(h4.push 4 [Value.int .u64 0,Value.int .u64 0,Value.int .u64 0,Value.int .u64 0]).next=h4.next+1:=rfl;generalize h4.push 4 [Value.int .u64 0,Value.int .u64 0,Value.int .u64 0,Value.int .u64 0]=h5 at *;obtain⟨bo,hbo⟩:∃z,z=h4.next:=⟨_,rfl⟩;rw[<-hbo]at o5;rw[<-hbo];obtain⟨h6,w3,p5,q3⟩:=o5.write (o:=0) (vs:=[Value.int .u64 0,Value.int .u64 0,Value.int .u64 0,Value.int .u64 0]) (by simp);refine⟨h6,kF hA w3,?_⟩;refine zc ?_;have m3:=q3.next;have t0:yC h h6 bx by_ bo [x0,x1,0,0] [y0,y1,0,0] [0,0,0,0]:=
  ⟨q3.ext (e4.trans e5) om,q3.own (bW.ext p4 e5 om) om,q3.own (bW.ext p3 e5 om) om,p5,om,om,⟨om,om⟩,om,om,rfl,rfl,rfl⟩
 obtain⟨k1,k2,k3,k4,k5,_⟩:=Lo hx.1 hx.2 hy.1 hy.2 rfl rfl rfl rfl rfl rfl;rw[<-Sf,<-NU,<-zS,<-Lp]at k5;rw[<-Sf,<-NU]at k1;rw[<-zS,<-NU]at k2;rw[<-Sf,<-Lp]at k3;rw[<-zS,<-Lp]at k4;obtain⟨w1,oA⟩:∃z,z=x0*y0:=⟨_,rfl⟩;obtain⟨w2,o7⟩:∃z,z=w1 / 4294967296+x0*y1:=⟨_,rfl⟩;obtain⟨w3,Jp⟩:∃z,z=w2 % 4294967296+x1*y0:=⟨_,rfl⟩;obtain⟨w4,hw4⟩:∃z,z=w3 / 4294967296+(w2 / 4294967296+x1*y1):=⟨_,rfl⟩;have g1:arith .mul .u64 x0 y0=x0*y0:=nX hA k1.1 om;have g2:arith .mul .u64 x0 y1=x0*y1:=nX hA k3.1 om;have g3:arith .mul .u64 x1 y0=x1*y0:=nX hA k2.1 om;have g4:arith .mul .u64 x1 y1=x1*y1:=nX hA k4.1 om;refine yD hA t0 (i:=0) om om (w1:=w1) (w2:=w2) (v:=w2 / 4294967296) (O1:=[w1 % 4294967296,0,0,0]) (O2:=[w1 % 4294967296,w2 % 4294967296,0,0]) (O3:=[w1 % 4294967296,w2 % 4294967296,w2 / 4294967296,0]) g1 g2
  (by show w1=0+(0+x0*y0);omega) rfl (by show w2=w1 / 4294967296+(0+x0*y1);omega) rfl (by show w2 / 4294967296=0+w2 / 4294967296;omega) rfl (by show 0<=0+x0*y0;omega) om (by show 0<=0+x0*y1;omega) om (by show(0:Int)<=0;omega) om (fun h7 t7=>?_)
 rw[show(0:Int)+1=1 from rfl];refine yD hA t7 (i:=1) om om (w1:=w3) (w2:=w4) (v:=w4 / 4294967296) (O1:=[w1 % 4294967296,w3 % 4294967296,w2 / 4294967296,0]) (O2:=[w1 % 4294967296,w3 % 4294967296,w4 % 4294967296,0]) (O3:=[w1 % 4294967296,w3 % 4294967296,w4 % 4294967296,w4 / 4294967296]) g3 g4
  (by show w3=0+(w2 % 4294967296+x1*y0);omega) rfl (by show w4=w3 / 4294967296+(w2 / 4294967296+x1*y1);omega) rfl (by show w4 / 4294967296=0+w4 / 4294967296;omega) rfl (by show 0<=w2 % 4294967296+x1*y0;omega) om (by show 0<=w2 / 4294967296+x1*y1;omega) om (by show(0:Int)<=0;omega) om (fun h8 t8=>?_)
 rw[show(1:Int)+1=2 from rfl];have hd:pV (x*y) (w1 % 4294967296) (w3 % 4294967296) (w4 % 4294967296) (w4 / 4294967296):=by
  refine⟨?_,om,om,om,om⟩;rw[k5];omega
 obtain⟨a,ha⟩:∃z,z=w1 % 4294967296:=⟨_,rfl⟩;obtain⟨b,hb⟩:∃z,z=w3 % 4294967296:=⟨_,rfl⟩;obtain⟨c,hc⟩:∃z,z=w4 % 4294967296:=⟨_,rfl⟩;obtain⟨d,wJ⟩:∃z,z=w4 / 4294967296:=⟨_,rfl⟩;rw[<-ha,<-hb,<-hc,<-wJ]at hd t8;refine hA.ar Tryz.func55 x55.2 (zc ?_);refine br (False) (by rw[aA hA];rfl) (fun q=>q.elim) (fun _=>?_)<;>refine zc ?_;have SC:h8.aM ⟨bo,0,none⟩ 4=some [.int .u64 a,.int .u64 b,.int .u64 c,.int .u64 d]:=t8.oo.aM (by simp);refine⟨a,b,c,d,iS hA SC,?_⟩;refine zc ?_;exact hQ a b c d h8 hd t8.ext
theorem jr{h:af}{b:Nat}{l:List Int}{z:Int}(ho:bW h b 4 (l.map (.int .u64)))(hl:l.length=4)(z0:0<=z)(z1:z<4):rd h b (place (bX 0 0) z 1) 1 [.int .u64 (dV l z)]:=by
 rw[Bv hA,fR hA,dj hA];have:=ho.getInt (i:=z.toNat) om;rw[show 0+0+z.toNat*1=z.toNat by omega];exact this
theorem od{h:af}{ba bb:Nat}{A B:List Int}(oa:bW h ba 4 (A.map (.int .u64)))(ob:bW h bb 4 (B.map (.int .u64)))(la:ba<h.next)(lb:bb<h.next)(hl:A.length=4)(hk:B.length=4){i:Int}(i0:0<=i)(i1:i<4){Q:Exit->SS->Prop}
  (h1:dV A i≠dV B i->∀e kn K h',Ext h h'->Q .ret ⟨(4,.bool (cmp .lss (dV A i) (dV B i))) :: e,kn,K,h'⟩)
  (h2:dV A i=dV B i->∀h',Ext h h'->head 57 2 0 ⟨[(2,.pointer (some ⟨ba,0,none⟩)),(3,.pointer (some ⟨bb,0,none⟩)),(5,.int .i64 (i-1))],0,[],h'⟩ Q) :
  head 57 2 0 ⟨[(2,.pointer (some ⟨ba,0,none⟩)),(3,.pointer (some ⟨bb,0,none⟩)),(5,.int .i64 i)],0,[],h⟩ Q:=by
 refine hA.ar Tryz.func57 x57.2 (zc ?_);refine br (0<=i) (by rw[bY hA]) (fun _=>?_) (fun q=>absurd i0 q)<;>refine zc ?_;obtain⟨h9,iT⟩:∃z,z=aG h 9:=⟨_,rfl⟩;have e9:Ext h h9:=by rw[iT];exact au hA _ _
 rw[<-iT];have r1:=jr hA (oa.ext e9 la) hl i0 i1;have r2:=jr hA (ob.ext e9 lb) hk i0 i1;obtain⟨x,hx⟩:∃z,z=dV A i:=⟨_,rfl⟩;obtain⟨y,hy⟩:∃z,z=dV B i:=⟨_,rfl⟩;rw[<-hx]at r1 h1 h2;rw[<-hy]at r2 h1 h2;refine⟨kE hA i0 om,?_⟩;refine zc ?_;refine⟨x,r1,?_⟩;refine zc ?_;refine⟨kE hA i0 om,?_⟩;refine zc ?_;refine⟨y,r2,?_⟩;refine zc ?_;refine br (x≠y) (by rw[bT hA]) (fun c=>?_) (fun c=>?_)<;>refine zc ?_
 ·obtain⟨BA,DY⟩:∃z,z=aG h9 10:=⟨_,rfl⟩
  have Ge:Ext h9 BA:=by rw[DY];exact au hA _ _
  rw[<-DY];have r3:=jr hA (oa.ext (e9.trans Ge) la) hl i0 i1;have r4:=jr hA (ob.ext (e9.trans Ge) lb) hk i0 i1;rw[<-hx]at r3;rw[<-hy]at r4;refine⟨kE hA i0 om,?_⟩;refine zc ?_;refine⟨x,r3,?_⟩;refine zc ?_;refine⟨kE hA i0 om,?_⟩;refine zc ?_;refine⟨y,r4,?_⟩;refine zc ?_;exact h1 c _ _ _ BA (e9.trans Ge)
 ·rw[bP hA om om]
  exact h2 om h9 e9
theorem Mp{h:af}(aq:h.low<=h.next){a0 a1 a2 a3 b0 b1 b2 b3 M N:Int}(hm:pV M a0 a1 a2 a3)(hn:pV N b0 b1 b2 b3){Q:Value->af->Prop}
  (hQ:∀(r:Bool) h',(r=true↔M<N)->Ext h h'->Q (.bool r) h'):call 57 [.agg #[.int .u64 a0,.int .u64 a1,.int .u64 a2,.int .u64 a3],.agg #[.int .u64 b0,.int .u64 b1,.int .u64 b2,.int .u64 b3]] h Q:=by
 refine hA.aN Tryz.func57 x57.2 (hA.alike _ _ _ rfl) aq (zc ?_);rw[cM hA,df hA,cM hA,df hA];have e1:Ext h (h.push 4 [Value.int .u64 a0,Value.int .u64 a1,Value.int .u64 a2,Value.int .u64 a3]):=.push _ _ _;have o1:bW (h.push 4 [Value.int .u64 a0,Value.int .u64 a1,Value.int .u64 a2,Value.int .u64 a3]) h.next 4 [Value.int .u64 a0,Value.int .u64 a1,Value.int .u64 a2,Value.int .u64 a3]:=bW.push _ _ _;have n1:(h.push 4 [Value.int .u64 a0,Value.int .u64 a1,Value.int .u64 a2,Value.int .u64 a3]).next=h.next+1:=rfl;generalize h.push 4 [Value.int .u64 a0,Value.int .u64 a1,Value.int .u64 a2,Value.int .u64 a3]=h1 at *;have e2:Ext h1 (h1.push 4 [Value.int .u64 b0,Value.int .u64 b1,Value.int .u64 b2,Value.int .u64 b3]):=.push _ _ _;have o2:bW (h1.push 4 [Value.int .u64 b0,Value.int .u64 b1,Value.int .u64 b2,Value.int .u64 b3]) h1.next 4 [Value.int .u64 b0,Value.int .u64 b1,Value.int .u64 b2,Value.int .u64 b3]:=bW.push _ _ _;have n2:(h1.push 4 [Value.int .u64 b0,Value.int .u64 b1,Value.int .u64 b2,Value.int .u64 b3]).next=h1.next+1:=rfl;generalize h1.push 4 [Value.int .u64 b0,Value.int .u64 b1,Value.int .u64 b2,Value.int .u64 b3]=h2 at *;have e02:=e1.trans e2;have oa:bW h2 h.next 4 ([a0,a1,a2,a3].map (.int .u64)):=o1.ext e2 om;have ob:bW h2 h1.next 4 ([b0,b1,b2,b3].map (.int .u64)):=o2;obtain⟨m1,m2,m3,m4,m5⟩:=hm;obtain⟨k1,k2,k3,k4,k5⟩:=hn;have res:∀(i:Int) (x y:Int),(M<N↔x<y)->∀h',Ext h2 h'->Q (.bool (cmp .lss x y)) h':=fun i x y YS h' x'=>hQ _ _ (by rw[aA hA,decide_eq_true_iff];exact YS.symm) (e02.trans x')
 refine od hA oa ob om om rfl rfl (i:=3) om om (fun c e kn K h' x'=>?_) (fun c3 h3 x3=>?_)
 ·refine zc ?_
  exact res 3 a3 b3 (by have c':a3≠b3:=c;omega) h' x'
 have c3':a3=b3:=c3;refine od hA (oa.ext x3 om) (ob.ext x3 om) (by have:=x3.next;omega) (by have:=x3.next;omega) rfl rfl (i:=3-1) om om (fun c e kn K h' x'=>?_) (fun c2 h4 x4=>?_)
 ·refine zc ?_
  exact res 2 a2 b2 (by have c':a2≠b2:=c;omega) h' (x3.trans x')
 have c2':a2=b2:=c2;have x34:=x3.trans x4;refine od hA (oa.ext x34 om) (ob.ext x34 om) (by have:=x34.next;omega) (by have:=x34.next;omega) rfl rfl (i:=3-1-1) om om (fun c e kn K h' x'=>?_) (fun c1 h5 x5=>?_)
 ·refine zc ?_
  exact res 1 a1 b1 (by have c':a1≠b1:=c;omega) h' (x34.trans x')
 have c1':a1=b1:=c1;have x35:=x34.trans x5;refine od hA (oa.ext x35 om) (ob.ext x35 om) (by have:=x35.next;omega) (by have:=x35.next;omega) rfl rfl (i:=3-1-1-1) om om (fun c e kn K h' x'=>?_) (fun c0 h6 x6=>?_)
 ·refine zc ?_
  exact res 0 a0 b0 (by have c':a0≠b0:=c;omega) h' (x35.trans x')
 have c0':a0=b0:=c0;refine hA.ar Tryz.func57 x57.2 (zc ?_);refine br (False) (by rw[bY hA];rfl) (fun q=>q.elim) (fun _=>?_)<;>refine zc ?_;exact hQ false h6 (no om) (e02.trans (x35.trans x6))
theorem s8{X h':af}(e:Ext (fresh X) h'):wrote X h'=false:=by
 rw[By hA];have h1:=e.vD;rw[jQ hA]at h1;have h2:Nat.min X.dK.low X.dK.next=X.next:=Nat.min_self _;rw[h2]at h1;exact cF h1
theorem DZ{h:af}(aq:h.low<=h.next){a0 a1 a2 a3 N:Int}(hN:pV N a0 a1 a2 a3){Q:Value->af->Prop}
  (hQ:∀(v:Int) (r:Bool) h',(r=true↔N<=1000000000000000000)->(N<=1000000000000000000->v=N)->Ext h h'->Q (.tuple #[.int .i64 v,.bool r]) h'):call 78 [.agg #[.int .u64 a0,.int .u64 a1,.int .u64 a2,.int .u64 a3]] h Q:=by
 obtain⟨m1,m2,m3,m4,m5⟩:=hN;refine hA.aN Tryz.func78 x78.2 (hA.alike _ _ _ rfl) aq (zc ?_);rw[cM hA,df hA];have e1:Ext h (h.push 4 [Value.int .u64 a0,Value.int .u64 a1,Value.int .u64 a2,Value.int .u64 a3]):=.push _ _ _;have o1:bW (h.push 4 [Value.int .u64 a0,Value.int .u64 a1,Value.int .u64 a2,Value.int .u64 a3]) h.next 4 ([a0,a1,a2,a3].map (.int .u64)):=bW.push _ _ _;generalize h.push 4 [Value.int .u64 a0,Value.int .u64 a1,Value.int .u64 a2,Value.int .u64 a3]=h1 at *;have r0:rd h1 h.next (place (bX 0 0) 0 1) 1 [.int .u64 a0]:=jr hA o1 rfl (z:=0) om om;have r1:rd h1 h.next (place (bX 0 0) 1 1) 1 [.int .u64 a1]:=jr hA o1 rfl (z:=1) om om;have r2:rd h1 h.next (place (bX 0 0) 2 1) 1 [.int .u64 a2]:=jr hA o1 rfl (z:=2) om om;have r3:rd h1 h.next (place (bX 0 0) 3 1) 1 [.int .u64 a3]:=jr hA o1 rfl (z:=3) om om;obtain⟨b,hb⟩:∃z,z=h.next:=⟨_,rfl⟩;rw[<-hb]at r0 r1 r2 r3 ⊢;refine⟨kE hA om om,?_⟩;refine zc ?_;refine⟨a1,r1,?_⟩;refine zc ?_;refine⟨fu hA om,?_⟩;refine zc ?_;refine⟨kE hA om om,?_⟩;refine zc ?_;refine⟨a0,r0,?_⟩;refine zc ?_;obtain⟨L,hL⟩:∃z,z=a1*4294967296+a0:=⟨_,rfl⟩;have es:arith .shl .u64 a1 32=a1*2 ^ 32:=by rw[FZ hA a1 32 om (by rfl)];exact Int.emod_eq_of_lt om om
 have eo:arith .or .u64 (a1*2 ^ 32) a0=L:=by rw[Xd hA 32 m3.1 m2.1 om om,hL];omega
 rw[es,eo];refine⟨kE hA om om,?_⟩;refine zc ?_;refine⟨a2,r2,?_⟩;refine zc ?_;have em:arith .and .u64 L 9223372036854775807=L % 9223372036854775808:=Hq hA om om 63 om (by rfl);have ec:conv .i64 (L % 9223372036854775808)=L % 9223372036854775808:=kA hA om om;refine br (a2=0) (by rw[de hA]) (fun c2=>?_) (fun c2=>?_)<;>refine zc ?_
 rotate_left
 ·exact hQ _ _ h1 ⟨(fun q=>by cases q),fun q=>om⟩ (fun q=>om) e1
 refine⟨kE hA om om,?_⟩;refine zc ?_;refine⟨a3,r3,?_⟩;refine zc ?_;refine br (a3=0) (by rw[de hA]) (fun c3=>?_) (fun c3=>?_)<;>refine zc ?_
 rotate_left
 ·exact hQ _ _ h1 ⟨(fun q=>by cases q),fun q=>om⟩ (fun q=>om) e1
 refine hQ _ _ h1 ?_ (fun q=>?_) e1
 ·rw[jA hA,decide_eq_true_iff]
  omega
 ·rw[em,ec]
  omega
theorem qF{h:af}(aq:h.low<=h.next){q:Rat}{mi:Bool}{N D a0 a1 a2 a3 b0 b1 b2 b3:Int}(hN:pV N a0 a1 a2 a3)(hD:pV D b0 b1 b2 b3)(h1:q.num=if mi=true then -N else N)(h2:(q.den:Int)=D){Q:Value->af->Prop}
  (hQ:∀n d e h',oK q n d e->Ext h h'->Q (.tuple #[.agg #[.int .i64 n,.int .i64 d],.int .i64 e]) h'):call 62 [.bool mi,.agg #[.int .u64 a0,.int .u64 a1,.int .u64 a2,.int .u64 a3],.agg #[.int .u64 b0,.int .u64 b1,.int .u64 b2,.int .u64 b3]] h Q:=by
 have N0:0<=N:=by obtain⟨m1,m2,m3,m4,m5⟩:=hN;omega
 have D0:0<=D:=by obtain⟨m1,m2,m3,m4,m5⟩:=hD;omega
 have hf:fits q↔N<=1000000000000000000/\D<=1000000000000000000:=by
  unfold fits;rw[h1,h2];split<;>omega
 have bt:dH true=false:=by rw[bZ hA];rfl
 have bf:dH false=true:=by rw[bZ hA];rfl
 refine hA.aN Tryz.func62 x62.2 (hA.alike _ _ _ rfl) aq (zc ?_);refine DZ hA aq hN (fun v1 r1 h3 k1 k2 x3=>⟨_,_,rfl,?_⟩);refine zc ?_;refine DZ hA (x3.aC aq) hD (fun v2 r2 h4 k3 k4 x4=>⟨_,_,rfl,?_⟩);have x:=x3.trans x4;cases r1 with
 |false=>
  refine zc ?_;rw[bf];refine zc ?_;exact hQ _ _ _ h4 (.inr ⟨fun w=>(by have:=k1.2 (hf.1 w).1;cases this),rfl,rfl,rfl⟩) x
 |true=>
 have e1:=k2 (k1.1 rfl);have l1:=k1.1 rfl;cases r2 with
 |false=>
  refine zc ?_;rw[bt];refine zc ?_;rw[bf];refine zc ?_;exact hQ _ _ _ h4 (.inr ⟨fun w=>(by have:=k3.2 (hf.1 w).2;cases this),rfl,rfl,rfl⟩) x
 |true=>
 have e2:=k4 (k3.1 rfl);have l2:=k3.1 rfl;have CJ:=hf.2 ⟨l1,l2⟩;have en:neg .i64 v1=-v1:=by rw[vc hA,wrap64 om om];omega
 refine zc ?_;rw[bt];refine zc ?_;rw[bt];refine zc ?_;cases mi with
 |true=>
  refine zc ?_;rw[en];exact hQ _ _ _ h4 (.inl ⟨CJ,by rw[h1,if_pos rfl,e1],by rw[h2,e2],rfl⟩) x
 |false=>
  refine zc ?_;exact hQ _ _ _ h4 (.inl ⟨CJ,by rw[h1,e1];simp,by rw[h2,e2],rfl⟩) x
theorem HF{h:af}(aq:h.low<=h.next){n d m e:Int}(hn:i64 n)(hd:i64 d)(hm:i64 m)(he:i64 e){Q:Value->af->Prop}
  (hQ:∀a b r,DV (· * ·) n d m e a b r->∀h',Ext h h'->Q (.tuple #[.agg #[.int .i64 a,.int .i64 b],.int .i64 r]) h'):call 41 [.agg #[.int .i64 n,.int .i64 d],.agg #[.int .i64 m,.int .i64 e]] h Q:=by
 refine hA.aN Tryz.func41 Se (hA.alike _ _ _ rfl) aq (zc ?_);refine m7 hA aq hn hd hm he (fun r1 h1 k1 x1=>⟨_,rfl,?_⟩);refine zc ?_;refine br (r1≠0) (by rw[bT hA]) (fun c1=>?_) (fun c1=>?_)<;>refine zc ?_
 ·refine m7 hA (x1.aC aq) hn hd hm he (fun r3 h3 k3 x3=>⟨_,rfl,?_⟩)
  refine zc ?_;rcases k1 with ⟨q,_⟩|⟨rfl,q⟩
  ·exact absurd q c1
  ·rcases k3 with ⟨_,q3⟩|⟨rfl,_⟩
   ·exact absurd q3 q
   ·exact hQ _ _ _ (.inl ⟨q,rfl,rfl,rfl⟩) _ (x1.trans x3)
 rcases k1 with ⟨_,⟨p,hp⟩,q,hq⟩|⟨q,_⟩
 rotate_left
 ·omega
 have y8:=x1.aC aq;have lU:=hp.kf;have yA:=hq.kf;have DT:=hq.kQ;have DS:=hp.kQ;have pd:=hp.den;have qd:=hq.den;have ud:u64 d:=by unfold u64;unfold i64 at DS;omega
 have ue:u64 e:=by unfold u64;unfold i64 at DT;omega
 obtain⟨h9,iT⟩:∃z,z=aG h1 16:=⟨_,rfl⟩;have e9:Ext h h9:=by rw[iT];exact x1.trans (au hA _ _)
 have l9:=e9.aC aq;rw[<-iT];refine zc ?_;rw[mj hA ud.1 ud.2,mj hA ue.1 ue.2];refine n8 hA (aB hA h9) lU (fun s1 fX=>⟨_,rfl,?_⟩);refine zc ?_;rw[bR hA l9];have z1:u64 s1:=by unfold u64;unfold i64 at lU;omega
 refine n7 hA (aB hA h9) z1 ue (fun g hg ha ea=>⟨_,rfl,?_⟩);refine zc ?_;obtain⟨hX,Gb⟩:∃z,z=az h9 ha:=⟨_,rfl⟩;have eX:Ext h hX:=by rw[Gb];exact cI hA aq e9 ea
 have lX:=eX.aC aq;rw[<-Gb];refine n8 hA (aB hA hX) yA (fun s2 ql=>⟨_,rfl,?_⟩);refine zc ?_;rw[bR hA lX];have z2:u64 s2:=by unfold u64;unfold i64 at yA;omega
 refine n7 hA (aB hA hX) z2 ud (fun k hk hb eb=>⟨_,rfl,?_⟩);refine zc ?_;obtain⟨hY,VB⟩:∃z,z=az hX hb:=⟨_,rfl⟩;have eY:Ext h hY:=by rw[VB];exact cI hA aq eX eb
 have lY:=eY.aC aq;rw[<-VB];refine zc ?_;obtain⟨BA,DY⟩:∃z,z=aG hY 34:=⟨_,rfl⟩;have Ge:Ext h BA:=by rw[DY];exact eY.trans (au hA _ _)
 have TO:=Ge.aC aq;rw[<-DY];obtain⟨mi,Gc⟩:∃z,z=dH (jz (cmp .lss n 0) (cmp .lss m 0)):=⟨_,rfl⟩;have Mh:=ym hA n m;rw[<-Gc]at Mh ⊢;obtain⟨k1,k2,k3,k4,k5,k6⟩:=DC hp hq (g:=g) (h:=k) (by rw[hg,fX]) (by rw[hk,ql]) Mh;rw[<-fX,<-ql]at k1;have cd:conv .u64 d=d:=mj hA ud.1 ud.2;have ce:conv .u64 e=e:=mj hA ue.1 ue.2;rw[cd];have w1:arith .quo .u64 s1 g=s1 / g:=jo hA z1.1 z1.2 k3;have w2:arith .quo .u64 s2 k=s2 / k:=jo hA z2.1 z2.2 k5;have w3:arith .quo .u64 d k=d / k:=jo hA ud.1 ud.2 k5;have w4:arith .quo .u64 e g=e / g:=jo hA ue.1 ue.2 k3;have v1:=c7 z1 k3;have v2:=c7 z2 k5;have v3:=c7 ud k5;have v4:=c7 ue k3;generalize s1 / g=q1 at *;generalize s2 / k=q2 at *;generalize d / k=q3 at *;generalize e / g=q4 at *;refine⟨dy hA om,?_⟩;refine zc ?_;rw[ce,w3];refine⟨dy hA om,?_⟩;refine zc ?_;rw[w4];refine n8 hA (aB hA BA) lU (fun s3 xP=>⟨_,rfl,?_⟩);rw[<-fX]at xP;subst xP;refine zc ?_;rw[bR hA TO];refine⟨dy hA om,?_⟩;refine zc ?_;rw[w1];refine n8 hA (aB hA BA) yA (fun s4 y7=>⟨_,rfl,?_⟩);rw[<-ql]at y7;subst y7;refine zc ?_;rw[bR hA TO];refine⟨dy hA om,?_⟩;refine zc ?_;rw[w2];refine gW hA (aB hA BA) v1 v2 (fun a0 a1 a2 a3 hz dz ez=>⟨_,_,_,_,rfl,?_⟩);refine zc ?_;obtain⟨hZ,VC⟩:∃z,z=az BA hz:=⟨_,rfl⟩;have eZ:Ext h hZ:=by rw[VC];exact cI hA aq Ge ez
 have lZ:=eZ.aC aq;rw[<-VC];refine gW hA (aB hA hZ) v3 v4 (fun b0 b1 b2 b3 hw dw ew=>⟨_,_,_,_,rfl,?_⟩);refine zc ?_;obtain⟨hW,hhW⟩:∃z,z=az hZ hw:=⟨_,rfl⟩;have eW:Ext h hW:=by rw[hhW];exact cI hA aq eZ ew
 have lW:=eW.aC aq;rw[<-hhW];refine qF hA (aB hA hW) dz dw k1 k2 (fun n' d' e' hv ho xv=>⟨_,_,_,rfl,?_⟩);refine zq ?_;exact hQ n' d' e' (.inr ⟨p,q,hp,hq,ho⟩) _ (cI hA aq eW xv)
theorem qG{h0 h:af}{ba bb:Nat}{A B:List Int}(t:zF h0 h ba bb A B){i c w:Int}(i0:0<=i)(i1:i<4){K:List Value}{Q:Exit->SS->Prop}
  (hw:w=c+(dV A i+dV B i)) (c0:0<=c) (r0:0<=dV A i+dV B i) (w1:w<18446744073709551616)
  (hQ:∀h',zF h0 h' ba bb (A.set i.toNat (w % 4294967296)) B->head 59 3 1 ⟨[(2,.pointer (some ⟨ba,0,none⟩)),(3,.pointer (some ⟨bb,0,none⟩)),(4,.pointer (some ⟨0,0,some 0⟩)),(5,.int .u64 (w / 4294967296)),(6,.int .i64 (i+1))],1,[(0,K)],h'⟩ Q) :
  head 59 3 1 ⟨[(2,.pointer (some ⟨ba,0,none⟩)),(3,.pointer (some ⟨bb,0,none⟩)),(4,.pointer (some ⟨0,0,some 0⟩)),(5,.int .u64 c),(6,.int .i64 i)],1,[(0,K)],h⟩ Q:=by
 refine hA.ar Tryz.func59 x59.2 (zc ?_);refine br (i<4) (by rw[aA hA]) (fun _=>?_) (fun q=>absurd i1 q)<;>refine zc ?_;obtain⟨h9,iT⟩:∃z,z=aG h 12:=⟨_,rfl⟩;have e9:Ext h h9:=by rw[iT];exact au hA _ _
 have t9:=t.more e9;rw[<-iT];have r1:=jr hA t9.oa t9.len.1 i0 i1;have r2:=jr hA t9.ob t9.len.2 i0 i1;have pj:place (bX 0 0) i 1=i.toNat:=by rw[fR hA,dj hA];omega
 generalize dV A i=x at *;generalize dV B i=y at *;have Jp:0<=w:=om
 have ea:arith .add .u64 x y=x+y:=mE hA r0 om;have eb:arith .add .u64 c (x+y)=w:=by rw[mE hA om om,hw]
 have em:=nY hA Jp w1;obtain⟨h',p1,p2⟩:=t9.put (i:=i.toNat) om (w % 4294967296);have p3:wr h9 ba (place (bX 0 0) i 1) [.int .u64 (w % 4294967296)] h':=by rw[pj];exact kF hA p1
 rw[<-em,<-eb,<-ea]at p3;refine zq ?_;rw[ea,eb,pO hA Jp,aF hA om om];exact hQ h' p2
theorem Pg{h:af}(aq:h.low<=h.next){a0 a1 a2 a3 b0 b1 b2 b3 M N:Int}(hm:pV M a0 a1 a2 a3)(hn:pV N b0 b1 b2 b3)(hs:M+N<340282366920938463463374607431768211456){Q:Value->af->Prop}
  (hQ:∀d0 d1 d2 d3 h',pV (M+N) d0 d1 d2 d3->Ext h h'->Q (.agg #[.int .u64 d0,.int .u64 d1,.int .u64 d2,.int .u64 d3]) h'):call 59 [.agg #[.int .u64 a0,.int .u64 a1,.int .u64 a2,.int .u64 a3],.agg #[.int .u64 b0,.int .u64 b1,.int .u64 b2,.int .u64 b3]] h Q:=by
 obtain⟨m1,m2,m3,m4,m5⟩:=hm;obtain⟨k1,k2,k3,k4,k5⟩:=hn;refine hA.aN Tryz.func59 x59.2 (hA.alike _ _ _ rfl) aq (zc ?_);rw[cM hA,df hA,cM hA,df hA];have e1:Ext h (h.push 4 [Value.int .u64 a0,Value.int .u64 a1,Value.int .u64 a2,Value.int .u64 a3]):=.push _ _ _;have o1:bW (h.push 4 [Value.int .u64 a0,Value.int .u64 a1,Value.int .u64 a2,Value.int .u64 a3]) h.next 4 [Value.int .u64 a0,Value.int .u64 a1,Value.int .u64 a2,Value.int .u64 a3]:=bW.push _ _ _;have n1:(h.push 4 [Value.int .u64 a0,Value.int .u64 a1,Value.int .u64 a2,Value.int .u64 a3]).next=h.next+1:=rfl;generalize h.push 4 [Value.int .u64 a0,Value.int .u64 a1,Value.int .u64 a2,Value.int .u64 a3]=h1 at *;have e2:Ext h1 (h1.push 4 [Value.int .u64 b0,Value.int .u64 b1,Value.int .u64 b2,Value.int .u64 b3]):=.push _ _ _;have o2:bW (h1.push 4 [Value.int .u64 b0,Value.int .u64 b1,Value.int .u64 b2,Value.int .u64 b3]) h1.next 4 [Value.int .u64 b0,Value.int .u64 b1,Value.int .u64 b2,Value.int .u64 b3]:=bW.push _ _ _;have n2:(h1.push 4 [Value.int .u64 b0,Value.int .u64 b1,Value.int .u64 b2,Value.int .u64 b3]).next=h1.next+1:=rfl;generalize h1.push 4 [Value.int .u64 b0,Value.int .u64 b1,Value.int .u64 b2,Value.int .u64 b3]=h2 at *;obtain⟨ba,QS⟩:∃z,z=h.next:=⟨_,rfl⟩;obtain⟨bb,QT⟩:∃z,z=h1.next:=⟨_,rfl⟩;rw[<-QS]at o1;rw[<-QT]at o2;rw[<-QS,<-QT];have t0:zF h h2 ba bb [a0,a1,a2,a3] [b0,b1,b2,b3]:=⟨e1.trans e2,o1.ext e2 om,o2,⟨om,om⟩,om,om,rfl,rfl⟩;obtain⟨w0,kx⟩:∃z,z=0+(a0+b0):=⟨_,rfl⟩;obtain⟨w1,oA⟩:∃z,z=w0 / 4294967296+(a1+b1):=⟨_,rfl⟩;obtain⟨w2,o7⟩:∃z,z=w1 / 4294967296+(a2+b2):=⟨_,rfl⟩;obtain⟨w3,Jp⟩:∃z,z=w2 / 4294967296+(a3+b3):=⟨_,rfl⟩;refine qG hA t0 (i:=0) om om kx om (by show 0<=a0+b0;omega) om (fun h3 t3=>?_);refine qG hA t3 (i:=0+1) om om oA om (by show 0<=a1+b1;omega) om (fun h4 t4=>?_);refine qG hA t4 (i:=0+1+1) om om o7 om (by show 0<=a2+b2;omega) om (fun h5 t5=>?_);refine qG hA t5 (i:=0+1+1+1) om om Jp om (by show 0<=a3+b3;omega) om (fun h6 t6=>?_);have hd:pV (M+N) (w0 % 4294967296) (w1 % 4294967296) (w2 % 4294967296) (w3 % 4294967296):=⟨om,om,om,om,om⟩;obtain⟨a,ha⟩:∃z,z=w0 % 4294967296:=⟨_,rfl⟩;obtain⟨b,hb⟩:∃z,z=w1 % 4294967296:=⟨_,rfl⟩;obtain⟨c,hc⟩:∃z,z=w2 % 4294967296:=⟨_,rfl⟩;obtain⟨d,wJ⟩:∃z,z=w3 % 4294967296:=⟨_,rfl⟩;rw[<-ha,<-hb,<-hc,<-wJ]at hd t6;obtain⟨cc,NN⟩:∃z,z=w3 / 4294967296:=⟨_,rfl⟩;rw[<-NN];refine hA.ar Tryz.func59 x59.2 (zc ?_);refine br (False) (by rw[aA hA];rfl) (fun q=>q.elim) (fun _=>?_)<;>refine zc ?_;have SC:h6.aM ⟨ba,0,none⟩ 4=some [.int .u64 a,.int .u64 b,.int .u64 c,.int .u64 d]:=t6.oa.aM (by simp);refine⟨a,b,c,d,iS hA SC,?_⟩;refine zc ?_;exact hQ a b c d h6 hd t6.ext
theorem qH{h0 h:af}{ba bb:Nat}{A B:List Int}(t:zF h0 h ba bb A B){i c w:Int}(i0:0<=i)(i1:i<4){K:List Value}{Q:Exit->SS->Prop}
  (hw:w=dV A i+4294967296-dV B i-c) (c0:0<=c/\c<=1) (r0:0<=dV A i/\dV A i<4294967296) (r1:0<=dV B i/\dV B i<4294967296)
  (hQ:∀h',zF h0 h' ba bb (A.set i.toNat (w % 4294967296)) B->head 60 3 1 ⟨[(2,.pointer (some ⟨ba,0,none⟩)),(3,.pointer (some ⟨bb,0,none⟩)),(4,.pointer (some ⟨0,0,some 0⟩)),(5,.int .u64 (1-w / 4294967296)),(6,.int .i64 (i+1))],1,[(0,K)],h'⟩ Q) :
  head 60 3 1 ⟨[(2,.pointer (some ⟨ba,0,none⟩)),(3,.pointer (some ⟨bb,0,none⟩)),(4,.pointer (some ⟨0,0,some 0⟩)),(5,.int .u64 c),(6,.int .i64 i)],1,[(0,K)],h⟩ Q:=by
 refine hA.ar Tryz.func60 x60.2 (zc ?_);refine br (i<4) (by rw[aA hA]) (fun _=>?_) (fun q=>absurd i1 q)<;>refine zc ?_;obtain⟨h9,iT⟩:∃z,z=aG h 14:=⟨_,rfl⟩;have e9:Ext h h9:=by rw[iT];exact au hA _ _
 have t9:=t.more e9;rw[<-iT];have g1:=jr hA t9.oa t9.len.1 i0 i1;have g2:=jr hA t9.ob t9.len.2 i0 i1;have pj:place (bX 0 0) i 1=i.toNat:=by rw[fR hA,dj hA];omega
 generalize dV A i=x at *;generalize dV B i=y at *;have ea:arith .add .u64 x 4294967295=x+4294967295:=mE hA om om;have eb:arith .add .u64 (x+4294967295) 1=x+4294967296:=by rw[mE hA om om];omega
 have ec:arith .sub .u64 (x+4294967296) y=x+4294967296-y:=vF hA om om;have ed:arith .sub .u64 (x+4294967296-y) c=w:=by rw[vF hA om om,hw]
 have Jp:0<=w:=om
 have em:=nY hA Jp om;obtain⟨h',p1,p2⟩:=t9.put (i:=i.toNat) om (w % 4294967296);have p3:wr h9 ba (place (bX 0 0) i 1) [.int .u64 (w % 4294967296)] h':=by rw[pj];exact kF hA p1
 rw[<-em,<-ed,<-ec,<-eb,<-ea]at p3;refine zq ?_;rw[ea,eb,ec,ed,pO hA Jp,aF hA om om,vF hA om om];exact hQ h' p2
theorem HG{h:af}(aq:h.low<=h.next){a0 a1 a2 a3 b0 b1 b2 b3 M N:Int}(hm:pV M a0 a1 a2 a3)(hn:pV N b0 b1 b2 b3)(hs:N<=M){Q:Value->af->Prop}
  (hQ:∀d0 d1 d2 d3 h',pV (M-N) d0 d1 d2 d3->Ext h h'->Q (.agg #[.int .u64 d0,.int .u64 d1,.int .u64 d2,.int .u64 d3]) h'):call 60 [.agg #[.int .u64 a0,.int .u64 a1,.int .u64 a2,.int .u64 a3],.agg #[.int .u64 b0,.int .u64 b1,.int .u64 b2,.int .u64 b3]] h Q:=by
 obtain⟨m1,m2,m3,m4,m5⟩:=hm;obtain⟨k1,k2,k3,k4,k5⟩:=hn;refine hA.aN Tryz.func60 x60.2 (hA.alike _ _ _ rfl) aq (zc ?_);rw[cM hA,df hA,cM hA,df hA];have e1:Ext h (h.push 4 [Value.int .u64 a0,Value.int .u64 a1,Value.int .u64 a2,Value.int .u64 a3]):=.push _ _ _;have o1:bW (h.push 4 [Value.int .u64 a0,Value.int .u64 a1,Value.int .u64 a2,Value.int .u64 a3]) h.next 4 [Value.int .u64 a0,Value.int .u64 a1,Value.int .u64 a2,Value.int .u64 a3]:=bW.push _ _ _;have n1:(h.push 4 [Value.int .u64 a0,Value.int .u64 a1,Value.int .u64 a2,Value.int .u64 a3]).next=h.next+1:=rfl;generalize h.push 4 [Value.int .u64 a0,Value.int .u64 a1,Value.int .u64 a2,Value.int .u64 a3]=h1 at *;have e2:Ext h1 (h1.push 4 [Value.int .u64 b0,Value.int .u64 b1,Value.int .u64 b2,Value.int .u64 b3]):=.push _ _ _;have o2:bW (h1.push 4 [Value.int .u64 b0,Value.int .u64 b1,Value.int .u64 b2,Value.int .u64 b3]) h1.next 4 [Value.int .u64 b0,Value.int .u64 b1,Value.int .u64 b2,Value.int .u64 b3]:=bW.push _ _ _;have n2:(h1.push 4 [Value.int .u64 b0,Value.int .u64 b1,Value.int .u64 b2,Value.int .u64 b3]).next=h1.next+1:=rfl;generalize h1.push 4 [Value.int .u64 b0,Value.int .u64 b1,Value.int .u64 b2,Value.int .u64 b3]=h2 at *;obtain⟨ba,QS⟩:∃z,z=h.next:=⟨_,rfl⟩;obtain⟨bb,QT⟩:∃z,z=h1.next:=⟨_,rfl⟩;rw[<-QS]at o1;rw[<-QT]at o2;rw[<-QS,<-QT];have t0:zF h h2 ba bb [a0,a1,a2,a3] [b0,b1,b2,b3]:=⟨e1.trans e2,o1.ext e2 om,o2,⟨om,om⟩,om,om,rfl,rfl⟩;obtain⟨w0,kx⟩:∃z,z=a0+4294967296-b0-0:=⟨_,rfl⟩;obtain⟨w1,oA⟩:∃z,z=a1+4294967296-b1-(1-w0 / 4294967296):=⟨_,rfl⟩;obtain⟨w2,o7⟩:∃z,z=a2+4294967296-b2-(1-w1 / 4294967296):=⟨_,rfl⟩;obtain⟨w3,Jp⟩:∃z,z=a3+4294967296-b3-(1-w2 / 4294967296):=⟨_,rfl⟩;refine qH hA t0 (i:=0) om om kx om m2 k2 (fun h3 t3=>?_);refine qH hA t3 (i:=0+1) om om oA om m3 k3 (fun h4 t4=>?_);refine qH hA t4 (i:=0+1+1) om om o7 om m4 k4 (fun h5 t5=>?_);refine qH hA t5 (i:=0+1+1+1) om om Jp om m5 k5 (fun h6 t6=>?_);have hd:pV (M-N) (w0 % 4294967296) (w1 % 4294967296) (w2 % 4294967296) (w3 % 4294967296):=⟨om,om,om,om,om⟩;obtain⟨a,ha⟩:∃z,z=w0 % 4294967296:=⟨_,rfl⟩;obtain⟨b,hb⟩:∃z,z=w1 % 4294967296:=⟨_,rfl⟩;obtain⟨c,hc⟩:∃z,z=w2 % 4294967296:=⟨_,rfl⟩;obtain⟨d,wJ⟩:∃z,z=w3 % 4294967296:=⟨_,rfl⟩;rw[<-ha,<-hb,<-hc,<-wJ]at hd t6;obtain⟨cc,NN⟩:∃z,z=1-w3 / 4294967296:=⟨_,rfl⟩;rw[<-NN];refine hA.ar Tryz.func60 x60.2 (zc ?_);refine br (False) (by rw[aA hA];rfl) (fun q=>q.elim) (fun _=>?_)<;>refine zc ?_;have SC:h6.aM ⟨ba,0,none⟩ 4=some [.int .u64 a,.int .u64 b,.int .u64 c,.int .u64 d]:=t6.oa.aM (by simp);refine⟨a,b,c,d,iS hA SC,?_⟩;refine zc ?_;exact hQ a b c d h6 hd t6.ext
theorem Jq{h0 h:af}{ba bb:Nat}{O A:List Int}(t:zF h0 h ba bb O A){i r n:Int}{b:Nat}(i0:0<=i)(i1:i<4)(hb:b<32)(n1:n<4611686018427387904)(r0:0<=r)(r1:r<n){K:List Value}{Q:Exit->SS->Prop}{r' v:Int}
  (vC:r'=r*2+dV A i / 2 ^ b % 2) (T0:0<=dV A i) (T1:dV A i<4294967296) (hv:dV O i=v*2 ^ (b+1)) (v0:0<=v) (yW:v*2 ^ (b+1)+2 ^ b<18446744073709551616)
  (h1:r'<n->∀h',zF h0 h' ba bb O A->head 61 6 1 ⟨[(1,.int .u64 n),(2,.pointer (some ⟨bb,0,none⟩)),(4,.pointer (some ⟨0,0,some 0⟩)),(6,.pointer (some ⟨ba,0,none⟩)),(7,.int .u64 r'),(8,.int .i64 i),(9,.int .i64 ((b:Int)-1))],1,[(0,K)],h'⟩ Q)
  (h2:n<=r'->∀h',zF h0 h' ba bb (O.set i.toNat (v*2 ^ (b+1)+2 ^ b)) A->head 61 6 1 ⟨[(1,.int .u64 n),(2,.pointer (some ⟨bb,0,none⟩)),(4,.pointer (some ⟨0,0,some 0⟩)),(6,.pointer (some ⟨ba,0,none⟩)),(7,.int .u64 (r'-n)),(8,.int .i64 i),(9,.int .i64 ((b:Int)-1))],1,[(0,K)],h'⟩ Q) :
  head 61 6 1 ⟨[(1,.int .u64 n),(2,.pointer (some ⟨bb,0,none⟩)),(4,.pointer (some ⟨0,0,some 0⟩)),(6,.pointer (some ⟨ba,0,none⟩)),(7,.int .u64 r),(8,.int .i64 i),(9,.int .i64 (b:Int))],1,[(0,K)],h⟩ Q:=by
 obtain⟨bi,Zo⟩:∃z:Int,z=(b:Int):=⟨_,rfl⟩;rw[<-Zo]at h1 h2 ⊢;obtain⟨p,hp⟩:∃z:Int,z=2 ^ b:=⟨_,rfl⟩;have KO:0<p:=by rw[hp];exact Int.pow_pos om
 have ux:(2:Int) ^ (b+1)=2*p:=by rw[hp,Int.pow_succ,Int.mul_comm]
 have es:arith .shl .u64 r 1=r*2 ^ 1:=by rw[FZ hA r 1 om (by rfl)];exact Int.emod_eq_of_lt om om
 have eh:arith .shr .u64 (dV A i) bi=dV A i / p:=by rw[yo hA T0 b om Zo,hp]
 have ep:arith .shl .u64 1 bi=p:=by
  rw[FZ hA 1 b om Zo,Int.one_mul,<-hp];exact Int.emod_eq_of_lt om (by
   have:=Int.mul_nonneg v0 (show(0:Int)<=2 ^ (b+1) by omega);omega)
 have eo:arith .or .u64 (dV O i) p=v*2 ^ (b+1)+p:=by
  rw[hv];exact Xd hA (b+1) v0 om om (by rw[hp];exact yW)
 rw[<-hp]at h2 vC;have pj:place (bX 0 0) i 1=i.toNat:=by rw[fR hA,dj hA];omega
 have g1:=jr hA t.ob t.len.2 i0 i1;obtain⟨x,hx⟩:∃z,z=dV A i:=⟨_,rfl⟩;rw[<-hx]at g1 eh vC T0 T1;have Zf:0<=x / p:=Int.ediv_nonneg T0 om;have Hm:x / p<=x:=Int.ediv_le_self _ T0;have ea:arith .and .u64 (x / p) 1=x / p % 2:=Hq hA Zf om 1 om (by rfl);have er:arith .or .u64 (r*2 ^ 1) (x / p % 2)=r':=by rw[Xd hA 1 r0 om om om,vC];omega
 refine hA.ar Tryz.func61 x61.2 (zc ?_);refine br (0<=bi) (by rw[bY hA]) (fun _=>?_) (fun q=>absurd (show 0<=bi by omega) q)<;>refine zc ?_;refine zq ?_;rw[eh,ea,es,er];have sb:arith .sub .i64 bi 1=bi-1:=bP hA om om;refine br (n<=r') (by rw[bY hA]) (fun c=>?_) (fun c=>?_)<;>refine zc ?_
 rotate_left
 ·rw[sb]
  exact h1 om _ t
 obtain⟨h9,iT⟩:∃z,z=aG h 10:=⟨_,rfl⟩;have e9:Ext h h9:=by rw[iT];exact au hA _ _
 have t9:=t.more e9;rw[<-iT];have g2:=jr hA t9.oa t9.len.1 i0 i1;obtain⟨h',p1,p2⟩:=t9.put (i:=i.toNat) om (v*2 ^ (b+1)+p);have p3:wr h9 ba (place (bX 0 0) i 1) [.int .u64 (v*2 ^ (b+1)+p)] h':=by rw[pj];exact kF hA p1
 rw[<-eo,<-ep]at p3;generalize dV O i=o at *;refine zq ?_;rw[sb,vF hA om om];exact h2 c _ p2
omit hA in
theorem Mq{X r0 T n r qd p:Int}{m:Nat}(hX:X=r0*4294967296+T)(T0:0<=T)(hm:m<32)(hp:p=2 ^ m)(hi:X / 2 ^ (m+1)=qd*n+r){r':Int}(vC:r'=r*2+T / p % 2):X / 2 ^ m=2*qd*n+r':=by
 have KO:0<p:=by rw[hp];exact Int.pow_pos om
 have e1:X / 2 ^ (m+1)=X / p / 2:=by rw[Int.pow_succ,<-hp,Int.ediv_ediv_of_nonneg (Int.le_of_lt KO)]
 obtain⟨k,hk⟩:∃k:Int,(4294967296:Int)=p*(2*k):=⟨2 ^ (31-m),by
  have:(4294967296:Int)=2 ^ (m+(1+(31-m))):=by rw[show m+(1+(31-m))=32 by omega];rfl
  rw[this,Int.pow_add,Int.pow_add,<-hp];rfl⟩
 have e2:X / p=r0*k*2+T / p:=by
  rw[hX,hk,show r0*(p*(2*k))+T=T+p*(r0*k*2) by grind,Int.add_mul_ediv_left _ _ om];omega
 rw[<-hp];rw[e1]at hi;have e3:X / p=2*(X / p / 2)+T / p % 2:=by
  have:X / p % 2=T / p % 2:=by rw[e2];omega
  omega
 rw[e3,hi,vC];grind
theorem Jr{h0:af}{ba bb:Nat}{O A:List Int}{i n r0 X:Int}(i0:0<=i)(i1:i<4)(n0:0<n)(n1:n<4611686018427387904)(Zp:0<=r0)(Zq:r0<n)(T0:0<=dV A i)(T1:dV A i<4294967296)(hX:X=r0*4294967296+dV A i){K:List Value}{Q:Exit->SS->Prop}
  (hQ:∀h' qd r,zF h0 h' ba bb (O.set i.toNat qd) A->X=qd*n+r->0<=r->r<n->0<=qd->head 61 6 1 ⟨[(1,.int .u64 n),(2,.pointer (some ⟨bb,0,none⟩)),(4,.pointer (some ⟨0,0,some 0⟩)),(6,.pointer (some ⟨ba,0,none⟩)),(7,.int .u64 r),(8,.int .i64 i),(9,.int .i64 (-1))],1,[(0,K)],h'⟩ Q) :
  ∀(m:Nat) (h:af) (r qd z:Int),z=(m:Int)-1->m<=32->zF h0 h ba bb (O.set i.toNat (qd*2 ^ m)) A->X / 2 ^ m=qd*n+r->0<=r->r<n->0<=qd->
  head 61 6 1 ⟨[(1,.int .u64 n),(2,.pointer (some ⟨bb,0,none⟩)),(4,.pointer (some ⟨0,0,some 0⟩)),(6,.pointer (some ⟨ba,0,none⟩)),(7,.int .u64 r),(8,.int .i64 i),(9,.int .i64 z)],1,[(0,K)],h⟩ Q:=by
 intro m
 induction m with
 |zero=>
  intro h r qd z hz _ t hi q1 q2 q3;obtain rfl:z=-1:=om
  rw[Int.pow_zero,Int.mul_one]at t;rw[Int.pow_zero,Int.ediv_one]at hi;exact hQ h qd r t hi q1 q2 q3
 |succ m ih=>
  intro h r qd z hz hm t hi q1 q2 q3;obtain rfl:z=(m:Int):=om
  have hlen:O.length=4:=by simpa using t.len.1
  obtain⟨p,hp⟩:∃z:Int,z=2 ^ m:=⟨_,rfl⟩;have KO:0<p:=by rw[hp];exact Int.pow_pos om
  have ux:(2:Int) ^ (m+1)=2*p:=by rw[hp,Int.pow_succ,Int.mul_comm]
  have hXn:X<n*4294967296:=by
   have:r0*4294967296+4294967296<=n*4294967296:=om
   omega
  have YQ:p<=2147483648:=by
   have:(2:Int) ^ m<=2 ^ 31:=by
    have:=Nat.pow_le_pow_right (n:=2) om (show m<=31 by omega)
    exact_mod_cast this
   rw[hp];exact this
  have hb:qd*2 ^ (m+1)<4294967296:=by
   have k1:2 ^ (m+1)*(X / 2 ^ (m+1))<=X:=Int.mul_ediv_self_le om;rw[hi]at k1;have k2:n*(qd*2 ^ (m+1))<=X:=by
    have:0<=2 ^ (m+1)*r:=Int.mul_nonneg om q1;have e:(2:Int) ^ (m+1)*(qd*n+r)=n*(qd*2 ^ (m+1))+2 ^ (m+1)*r:=by grind
    omega
   exact Int.lt_of_mul_lt_mul_left (a:=n) om om
  obtain⟨r',vC⟩:∃z,z=r*2+dV A i / 2 ^ m % 2:=⟨_,rfl⟩;have e4:=Mq (r':=r') hX T0 om hp hi (by rw[hp];exact vC);have hv:dV (O.set i.toNat (qd*2 ^ (m+1))) i=qd*2 ^ (m+1):=by rw[Hk O i0 i0 om,if_pos rfl]
  refine Jq hA t i0 i1 om n1 q1 q2 vC T0 T1 hv q3 (by rw[<-hp];omega) (fun c h' t'=>?_) (fun c h' t'=>?_)
  ·refine ih h' r' (2*qd) _ rfl om ?_ e4 om c om
   rw[show 2*qd*2 ^ m=qd*2 ^ (m+1) by rw[ux,<-hp];grind];exact t'
  ·refine ih h' (r'-n) (2*qd+1) _ rfl om ?_ (by rw[e4];grind) om om om
   rw[show(2*qd+1)*2 ^ m=qd*2 ^ (m+1)+2 ^ m by rw[ux,<-hp];grind];rw[List.set_set]at t';exact t'
theorem oe{h0 h:af}{ba bb:Nat}{O A:List Int}{i n r0 X:Int}(i0:0<=i)(i1:i<4)(n0:0<n)(n1:n<4611686018427387904)(Zp:0<=r0)(Zq:r0<n)(T0:0<=dV A i)(T1:dV A i<4294967296)(hX:X=r0*4294967296+dV A i)(t:zF h0 h ba bb O A)(hz:dV O i=0){K:List Value}{Q:Exit->SS->Prop}
  (hQ:∀h',zF h0 h' ba bb (O.set i.toNat (X / n)) A->head 61 3 1 ⟨[(1,.int .u64 n),(2,.pointer (some ⟨bb,0,none⟩)),(4,.pointer (some ⟨0,0,some 0⟩)),(6,.pointer (some ⟨ba,0,none⟩)),(7,.int .u64 (X % n)),(8,.int .i64 (i-1))],1,[(0,K)],h'⟩ Q) :
  head 61 3 1 ⟨[(1,.int .u64 n),(2,.pointer (some ⟨bb,0,none⟩)),(4,.pointer (some ⟨0,0,some 0⟩)),(6,.pointer (some ⟨ba,0,none⟩)),(7,.int .u64 r0),(8,.int .i64 i)],1,[(0,K)],h⟩ Q:=by
 refine hA.ar Tryz.func61 x61.2 (zc ?_);refine br (0<=i) (by rw[bY hA]) (fun _=>?_) (fun q=>absurd i0 q)<;>refine zc ?_;have hl:O.length=4:=t.len.1;refine Jr hA (h0:=h0) (O:=O) (A:=A) i0 i1 n0 n1 Zp Zq T0 T1 hX (fun h' qd r t' hx q1 q2 q3=>?_) 32 h r0 0 31 om om ?_ ?_ Zp Zq om
 rotate_left
 ·rw[Int.zero_mul]
  have:O.set i.toNat 0=O:=by
   refine I3 (by simp) (fun j j0 j1=>?_);rw[Hk O i0 j0 om];split
   ·rename_i e;rw[e,hz]
   ·rfl
  rw[this];exact t
 ·rw[hX,Int.zero_mul,Int.zero_add]
  show(r0*4294967296+dV A i) / 4294967296=r0;omega
 have hq:X / n=qd:=by
  rw[hx,Int.add_comm,Int.add_mul_ediv_right _ _ om,Int.ediv_eq_zero_of_lt q1 q2];omega
 have hr:X % n=r:=by
  rw[hx,Int.add_comm,Int.add_mul_emod_self_right];exact Int.emod_eq_of_lt q1 q2
 rw[hq,hr]at hQ;refine hA.ar Tryz.func61 x61.2 (zc ?_);refine br (False) (by rw[bY hA];rfl) (fun q=>q.elim) (fun _=>?_)<;>refine zc ?_;rw[bP hA om om];exact hQ h' t'
theorem qJ{h:af}(aq:h.low<=h.next){a0 a1 a2 a3 M n:Int}(hm:pV M a0 a1 a2 a3)(n0:0<n)(n1:n<4611686018427387904){Q:Value->af->Prop}
  (hQ:∀d0 d1 d2 d3 r h',pV (M / n) d0 d1 d2 d3->r=M % n->Ext h h'->Q (.tuple #[.agg #[.int .u64 d0,.int .u64 d1,.int .u64 d2,.int .u64 d3],.int .u64 r]) h'):call 61 [.agg #[.int .u64 a0,.int .u64 a1,.int .u64 a2,.int .u64 a3],.int .u64 n] h Q:=by
 obtain⟨m1,m2,m3,m4,m5⟩:=hm;refine hA.aN Tryz.func61 x61.2 (hA.alike _ _ _ rfl) aq (zc ?_);rw[cM hA,df hA,cM hA,df hA];have e1:Ext h (h.push 4 [Value.int .u64 a0,Value.int .u64 a1,Value.int .u64 a2,Value.int .u64 a3]):=.push _ _ _;have o1:bW (h.push 4 [Value.int .u64 a0,Value.int .u64 a1,Value.int .u64 a2,Value.int .u64 a3]) h.next 4 [Value.int .u64 a0,Value.int .u64 a1,Value.int .u64 a2,Value.int .u64 a3]:=bW.push _ _ _;have n1':(h.push 4 [Value.int .u64 a0,Value.int .u64 a1,Value.int .u64 a2,Value.int .u64 a3]).next=h.next+1:=rfl;generalize h.push 4 [Value.int .u64 a0,Value.int .u64 a1,Value.int .u64 a2,Value.int .u64 a3]=h1 at *;have e2:Ext h1 (h1.push 4 [Value.int .u64 0,Value.int .u64 0,Value.int .u64 0,Value.int .u64 0]):=.push _ _ _;have o2:bW (h1.push 4 [Value.int .u64 0,Value.int .u64 0,Value.int .u64 0,Value.int .u64 0]) h1.next 4 [Value.int .u64 0,Value.int .u64 0,Value.int .u64 0,Value.int .u64 0]:=bW.push _ _ _;have n2':(h1.push 4 [Value.int .u64 0,Value.int .u64 0,Value.int .u64 0,Value.int .u64 0]).next=h1.next+1:=rfl;generalize h1.push 4 [Value.int .u64 0,Value.int .u64 0,Value.int .u64 0,Value.int .u64 0]=h2 at *;obtain⟨bb,QT⟩:∃z,z=h.next:=⟨_,rfl⟩;obtain⟨ba,QS⟩:∃z,z=h1.next:=⟨_,rfl⟩;rw[<-QT]at o1;rw[<-QS]at o2;rw[<-QS,<-QT];obtain⟨h3,w1,p1,q1⟩:=o2.write (o:=0) (vs:=[.int .u64 0,.int .u64 0,.int .u64 0,.int .u64 0]) (by simp);refine⟨h3,kF hA w1,?_⟩;refine zc ?_;have m6:=q1.next;have t0:zF h h3 ba bb [0,0,0,0] [a0,a1,a2,a3]:=⟨q1.ext (e1.trans e2) om,p1,q1.own (o1.ext e2 om) om,⟨om,om⟩,om,om,rfl,rfl⟩;obtain⟨x3,hx3⟩:∃z,z=0*4294967296+a3:=⟨_,rfl⟩;have b3:=Int.emod_nonneg x3 (show n≠0 by omega);have c3:=Int.emod_lt_of_pos x3 n0;obtain⟨x2,E0⟩:∃z,z=x3 % n*4294967296+a2:=⟨_,rfl⟩;have b2:=Int.emod_nonneg x2 (show n≠0 by omega);have c2:=Int.emod_lt_of_pos x2 n0;obtain⟨x1,zS⟩:∃z,z=x2 % n*4294967296+a1:=⟨_,rfl⟩;have b1:=Int.emod_nonneg x1 (show n≠0 by omega);have c1:=Int.emod_lt_of_pos x1 n0;obtain⟨x0,Sf⟩:∃z,z=x1 % n*4294967296+a0:=⟨_,rfl⟩;have b0:=Int.emod_nonneg x0 (show n≠0 by omega);have c0:=Int.emod_lt_of_pos x0 n0;have g3:=Int.mul_ediv_add_emod x3 n;have g2:=Int.mul_ediv_add_emod x2 n;have g1:=Int.mul_ediv_add_emod x1 n;have g0:=Int.mul_ediv_add_emod x0 n;have small:∀r x a:Int,0<=r->r<n->0<=a->a<4294967296->x=r*4294967296+a->0<=x / n/\x / n<4294967296:=by
  intro r x a r0 r1 a0 a1 hx;refine⟨Int.ediv_nonneg om om,Int.ediv_lt_of_lt_mul n0 om⟩
 have s3:=small 0 x3 a3 om n0 m5.1 m5.2 hx3;have s2:=small _ x2 a2 b3 c3 m4.1 m4.2 E0;have s1:=small _ x1 a1 b2 c2 m3.1 m3.2 zS;have s0:=small _ x0 a0 b1 c1 m2.1 m2.2 Sf;refine oe hA (A:=[a0,a1,a2,a3]) (i:=3) om om n0 n1 om n0 m5.1 m5.2 hx3 t0 rfl (fun h4 t4=>?_);rw[show(3:Int)-1=2 from rfl];refine oe hA (A:=[a0,a1,a2,a3]) (i:=2) om om n0 n1 b3 c3 m4.1 m4.2 E0 t4 rfl (fun h5 t5=>?_);rw[show(2:Int)-1=1 from rfl];refine oe hA (A:=[a0,a1,a2,a3]) (i:=1) om om n0 n1 b2 c2 m3.1 m3.2 zS t5 rfl (fun h6 t6=>?_);rw[show(1:Int)-1=0 from rfl];refine oe hA (A:=[a0,a1,a2,a3]) (i:=0) om om n0 n1 b1 c1 m2.1 m2.2 Sf t6 rfl (fun h7 t7=>?_);have key:M=(x0 / n+4294967296*(x1 / n)+18446744073709551616*(x2 / n)+79228162514264337593543950336*(x3 / n))*n+x0 % n:=by
  rw[m1];grind
 obtain⟨a,ha⟩:∃z,z=x0 / n:=⟨_,rfl⟩;obtain⟨b,hb⟩:∃z,z=x1 / n:=⟨_,rfl⟩;obtain⟨c,hc⟩:∃z,z=x2 / n:=⟨_,rfl⟩;obtain⟨d,hd⟩:∃z,z=x3 / n:=⟨_,rfl⟩;obtain⟨r,hr⟩:∃z,z=x0 % n:=⟨_,rfl⟩;have Zr:zF h h7 ba bb [x0 / n,x1 / n,x2 / n,x3 / n] [a0,a1,a2,a3]:=t7;rw[<-ha,<-hb,<-hc,<-hd]at key Zr;rw[<-ha]at s0;rw[<-hb]at s1;rw[<-hc]at s2;rw[<-hd]at s3;rw[<-hr]at key b0 c0 ⊢;have f1:M / n=a+4294967296*b+18446744073709551616*c+79228162514264337593543950336*d:=by
  rw[key,Int.add_comm,Int.add_mul_ediv_right _ _ om,Int.ediv_eq_zero_of_lt b0 c0];omega
 have f2:r=M % n:=by
  rw[key,Int.add_comm,Int.add_mul_emod_self_right];exact(Int.emod_eq_of_lt b0 c0).symm
 refine hA.ar Tryz.func61 x61.2 (zc ?_);refine br (False) (by rw[bY hA];rfl) (fun q=>q.elim) (fun _=>?_)<;>refine zc ?_;have SC:h7.aM ⟨ba,0,none⟩ 4=some [.int .u64 a,.int .u64 b,.int .u64 c,.int .u64 d]:=Zr.oa.aM (by simp);refine⟨a,b,c,d,iS hA SC,?_⟩;refine zc ?_;exact hQ a b c d r h7 ⟨f1,s0,s1,s2,s3⟩ f2 Zr.ext
theorem BM{h:af}(aq:h.low<=h.next){n d m e:Int}(hn:i64 n)(hd:i64 d)(hm:i64 m)(he:i64 e){Q:Value->af->Prop}
  (hQ:∀a b r,DV (· + ·) n d m e a b r->∀h',Ext h h'->Q (.tuple #[.agg #[.int .i64 a,.int .i64 b],.int .i64 r]) h'):call 34 [.agg #[.int .i64 n,.int .i64 d],.agg #[.int .i64 m,.int .i64 e]] h Q:=by
 refine hA.aN Tryz.func34 Sd (hA.alike _ _ _ rfl) aq (zc ?_);refine m7 hA aq hn hd hm he (fun r1 h1 k1 x1=>⟨_,rfl,?_⟩);refine zc ?_;refine br (r1≠0) (by rw[bT hA]) (fun c1=>?_) (fun c1=>?_)<;>refine zc ?_
 ·refine m7 hA (x1.aC aq) hn hd hm he (fun r3 h3 k3 x3=>⟨_,rfl,?_⟩)
  refine zc ?_;rcases k1 with ⟨q,_⟩|⟨rfl,q⟩
  ·exact absurd q c1
  ·rcases k3 with ⟨_,q3⟩|⟨rfl,_⟩
   ·exact absurd q3 q
   ·exact hQ _ _ _ (.inl ⟨q,rfl,rfl,rfl⟩) _ (x1.trans x3)
 rcases k1 with ⟨_,⟨p,hp⟩,q,hq⟩|⟨q,_⟩
 rotate_left
 ·omega
 have y8:=x1.aC aq;have lU:=hp.kf;have yA:=hq.kf;have DT:=hq.kQ;have DS:=hp.kQ;have pd:=hp.den;have qd:=hq.den;have pf:=hp.2.2;have qf:=hq.2.2;unfold fits at pf qf;rw[<-hp.1,<-hp.2.1]at pf;rw[<-hq.1,<-hq.2.1]at qf;have ud:u64 d:=by unfold u64;unfold i64 at DS;omega
 have ue:u64 e:=by unfold u64;unfold i64 at DT;omega
 have cd:conv .u64 d=d:=mj hA ud.1 ud.2;have ce:conv .u64 e=e:=mj hA ue.1 ue.2;rw[cd,ce];refine n7 hA y8 ud ue (fun g hg h2 x2=>⟨_,rfl,?_⟩);refine zc ?_;have Ls:0<g:=by
  rw[hg];have:=Int.gcd_pos_of_ne_zero_left (a:=d) e om;omega
 have hgle:g<=d:=by
  rw[hg];have:=Int.gcd_le_left (a:=d) e om;omega
 have w1:arith .quo .u64 e g=e / g:=jo hA ue.1 ue.2 Ls;have w2:arith .quo .u64 d g=d / g:=jo hA ud.1 ud.2 Ls;have v1:=c7 ue Ls;have v2:=c7 ud Ls;generalize hE:e / g=E at *;generalize hD:d / g=D at *;obtain⟨h9,iT⟩:∃z,z=aG h2 22:=⟨_,rfl⟩;have e9:Ext h h9:=by rw[iT];exact(x1.trans x2).trans (au hA _ _)
 have l9:=e9.aC aq;rw[<-iT];refine⟨dy hA om,?_⟩;refine zc ?_;rw[ce,w1];refine⟨dy hA om,?_⟩;refine zc ?_;rw[cd,w2];refine zc ?_;refine n8 hA (aB hA h9) lU (fun s1 fX=>⟨_,rfl,?_⟩);refine zc ?_;rw[bR hA l9];have z1:u64 s1:=by unfold u64;unfold i64 at lU;omega
 refine gW hA (aB hA h9) z1 v1 (fun a0 a1 a2 a3 hz dz ez=>⟨_,_,_,_,rfl,?_⟩);refine zc ?_;obtain⟨hX,Gb⟩:∃z,z=az h9 hz:=⟨_,rfl⟩;have eX:Ext h hX:=by rw[Gb];exact cI hA aq e9 ez
 have lX:=eX.aC aq;rw[<-Gb];refine n8 hA (aB hA hX) yA (fun s2 ql=>⟨_,rfl,?_⟩);refine zc ?_;rw[bR hA lX];have z2:u64 s2:=by unfold u64;unfold i64 at yA;omega
 refine gW hA (aB hA hX) z2 v2 (fun b0 b1 b2 b3 hw dw ew=>⟨_,_,_,_,rfl,?_⟩);refine zc ?_;obtain⟨hY,VB⟩:∃z,z=az hX hw:=⟨_,rfl⟩;have eY:Ext h hY:=by rw[VB];exact cI hA aq eX ew
 have lY:=eY.aC aq;rw[<-VB];refine zq ?_;obtain⟨A,NY⟩:∃z,z=s1*E:=⟨_,rfl⟩;obtain⟨B,NZ⟩:∃z,z=s2*D:=⟨_,rfl⟩;rw[<-NY]at dz;rw[<-NZ]at dw;have fA:A=n.natAbs*(e / g):=by rw[NY,fX,<-hE]
 have fB:B=m.natAbs*(d / g):=by rw[NZ,ql,<-hD]
 have E1:E<=e:=by rw[<-hE];exact Int.ediv_le_self g om
 have D1:D<=d:=by rw[<-hD];exact Int.ediv_le_self g om
 have A0:0<=A:=by rw[NY];exact Int.mul_nonneg z1.1 v1.1
 have B0:0<=B:=by rw[NZ];exact Int.mul_nonneg z2.1 v2.1
 have A1:A<=1000000000000000000000000000000000000:=by
  rw[NY];exact Int.mul_le_mul (show s1<=1000000000000000000 by omega) (show E<=1000000000000000000 by omega) v1.1 om
 have B1:B<=1000000000000000000000000000000000000:=by
  rw[NZ];exact Int.mul_le_mul (show s2<=1000000000000000000 by omega) (show D<=1000000000000000000 by omega) v2.1 om
 have dec:∀x:Int,(decide (x<0)=true↔x<0):=fun x=>by simp
 refine br (n<0↔m<0) (by rw[Bw hA,aA hA,aA hA];by_cases y1:n<0<;>by_cases y2:m<0<;>simp[y1,y2]) (fun c=>?_) (fun c=>?_)<;>refine zc ?_
 ·refine Pg hA lY dz dw om (fun t0 t1 t2 t3 hS dT eS=>⟨_,_,_,_,rfl,?_⟩)
  refine zc ?_;have eT:=eY.trans eS;obtain⟨mi,Gc⟩:∃z,z=cmp .lss n 0:=⟨_,rfl⟩;have key:∀k:Int,k=Int.gcd g ((A+B) % g)->(p+q).num=(if mi=true then -((A+B) / k)else(A+B) / k)/\((p+q).den:Int)=D*(e / k)/\0<k/\k<=g/\0<=A+B:=fun k hk=>by
   obtain⟨f1,f2,f3,f4,f5,_⟩:=mX hp hq hg fA fB (T:=A+B) (neg:=mi) (.inl ⟨c,rfl,by rw[Gc,aA hA];exact dec n⟩) hk;exact⟨f1,by rw[f2,hD],f3,f4,f5⟩
  generalize A+B=T at *;have lT:=eT.aC aq;refine qJ hA lT dT Ls om (fun _ _ _ _ r1 Xr _ zo VD=>⟨_,_,_,_,_,rfl,?_⟩);have QU:=eT.trans VD;have VE:=QU.aC aq;refine zc ?_;have r10:0<=r1:=by rw[zo];exact Int.emod_nonneg _ om
  have r11:r1<g:=by rw[zo];exact Int.emod_lt_of_pos _ Ls
  refine n7 hA VE (by unfold u64;omega) (by unfold u64;omega) (fun k hk Xs VF=>⟨_,rfl,?_⟩);have QV:=QU.trans VF;have VH:=QV.aC aq;refine zc ?_;obtain⟨f1,f2,f3,f4,f5⟩:=key k (by rw[hk,zo,Int.gcd_comm]);refine qJ hA VH dT f3 om (fun y0 y1 y2 y3 _ QR dY _ VI=>⟨_,_,_,_,_,rfl,?_⟩);have Mr:=QV.trans VI;have lU3:=Mr.aC aq;refine zc ?_;obtain⟨rb,EE,vw⟩:=YL y0 y1 y2 y3;rw[qB hA];refine⟨FX,rb,EE,?_⟩;obtain⟨Y,hY⟩:∃z,z=T / k:=⟨_,rfl⟩;rw[<-hY]at f1 dY;have Y0:0<=Y:=by rw[hY];exact Int.ediv_nonneg f5 om
  cases rb with
  |true=>
   refine zc ?_;have y0:Y=0:=by
    obtain⟨g1,g2,g3,g4⟩:=vw.1 rfl;obtain⟨g5,_⟩:=dY;omega
   have s0:p+q=0:=Rat.num_eq_zero.1 (by rw[f1,y0];split<;>rfl);exact hQ _ _ _ (.inr ⟨p,q,hp,hq,.inl ⟨by show fits (p+q);rw[s0];exact⟨by decide,by decide,by decide⟩,by show(0:Int)=(p+q).num;rw[s0];rfl,by show(1:Int)=(p+q).den;rw[s0];rfl,rfl⟩⟩) _ Mr
  |false=>
   refine zc ?_;obtain⟨Ms,D3⟩:∃z,z=aG QR 20:=⟨_,rfl⟩;have QW:Ext h Ms:=by rw[D3];exact Mr.trans (au hA _ _)
   have l20:=QW.aC aq;rw[<-D3];have w3:arith .quo .u64 e k=e / k:=jo hA ue.1 ue.2 f3;have w4:arith .quo .u64 d k=d / k:=jo hA ud.1 ud.2 f3;have v3:=c7 ue f3;have v4:=c7 ud f3;generalize e / k=E2 at *;generalize d / k=D2 at *;refine⟨dy hA om,?_⟩;refine zc ?_;first|rw[cd,w2]|rw[ce,w1]
   refine⟨dy hA om,?_⟩;refine zc ?_;first|rw[ce,w3]|rw[cd,w4]
   refine gW hA (aB hA Ms) (by first|exact v2|exact v1) (by first|exact v3|exact v4) (fun u0 u1 u2 u3 hu du eu=>⟨_,_,_,_,rfl,?_⟩);refine zc ?_;obtain⟨QX,D4⟩:∃z,z=az Ms hu:=⟨_,rfl⟩;have VJ:Ext h QX:=by rw[D4];exact cI hA aq QW eu
   rw[<-D4,<-Gc];refine qF hA (aB hA QX) dY du f1 f2 (fun n' d' e' hv ho ev=>⟨_,_,_,rfl,?_⟩);refine zq ?_;exact hQ _ _ _ (.inr ⟨p,q,hp,hq,ho⟩) _ (cI hA aq VJ ev)
 refine Mp hA lY dz dw (fun r hS hr eS=>⟨_,rfl,?_⟩);have eB:=eY.trans eS;have lB:=eB.aC aq;cases r with
 |true=>
  have lt:=hr.1 rfl;refine zc ?_;obtain⟨BA,DY⟩:∃z,z=aG hS 8:=⟨_,rfl⟩;have Ge:Ext h BA:=by rw[DY];exact eB.trans (au hA _ _)
  have TO:=Ge.aC aq;rw[<-DY];refine HG hA (aB hA BA) dw dz (Int.le_of_lt lt) (fun t0 t1 t2 t3 hU dT eU=>⟨_,_,_,_,rfl,?_⟩);refine zc ?_;obtain⟨hT,VK⟩:∃z,z=az BA hU:=⟨_,rfl⟩;have eT:Ext h hT:=by rw[VK];exact cI hA aq Ge eU
  rw[<-VK];refine zq ?_;obtain⟨mi,Gc⟩:∃z,z=cmp .lss m 0:=⟨_,rfl⟩;have key:∀k:Int,k=Int.gcd g ((B-A) % g)->(p+q).num=(if mi=true then -((B-A) / k)else(B-A) / k)/\((p+q).den:Int)=E*(d / k)/\0<k/\k<=g/\0<=B-A:=fun k hk=>by
   obtain⟨f1,f2,f3,f4,f5,_⟩:=mX hq hp (by rw[hg,Int.gcd_comm]) fB fA (T:=B-A) (neg:=mi) (.inr (.inl ⟨fun w=>c w.symm,Int.le_of_lt lt,rfl,by rw[Gc,aA hA];exact dec m⟩)) hk;rw[Rat.add_comm];exact⟨f1,by rw[f2,hE],f3,f4,f5⟩
  generalize B-A=T at *;have lT:=eT.aC aq;refine qJ hA lT dT Ls om (fun _ _ _ _ r1 Xr _ zo VD=>⟨_,_,_,_,_,rfl,?_⟩);have QU:=eT.trans VD;have VE:=QU.aC aq;refine zc ?_;have r10:0<=r1:=by rw[zo];exact Int.emod_nonneg _ om
  have r11:r1<g:=by rw[zo];exact Int.emod_lt_of_pos _ Ls
  refine n7 hA VE (by unfold u64;omega) (by unfold u64;omega) (fun k hk Xs VF=>⟨_,rfl,?_⟩);have QV:=QU.trans VF;have VH:=QV.aC aq;refine zc ?_;obtain⟨f1,f2,f3,f4,f5⟩:=key k (by rw[hk,zo,Int.gcd_comm]);refine qJ hA VH dT f3 om (fun y0 y1 y2 y3 _ QR dY _ VI=>⟨_,_,_,_,_,rfl,?_⟩);have Mr:=QV.trans VI;have lU3:=Mr.aC aq;refine zc ?_;obtain⟨rb,EE,vw⟩:=YL y0 y1 y2 y3;rw[qB hA];refine⟨FX,rb,EE,?_⟩;obtain⟨Y,hY⟩:∃z,z=T / k:=⟨_,rfl⟩;rw[<-hY]at f1 dY;have Y0:0<=Y:=by rw[hY];exact Int.ediv_nonneg f5 om
  cases rb with
  |true=>
   refine zc ?_;have y0:Y=0:=by
    obtain⟨g1,g2,g3,g4⟩:=vw.1 rfl;obtain⟨g5,_⟩:=dY;omega
   have s0:p+q=0:=Rat.num_eq_zero.1 (by rw[f1,y0];split<;>rfl);exact hQ _ _ _ (.inr ⟨p,q,hp,hq,.inl ⟨by show fits (p+q);rw[s0];exact⟨by decide,by decide,by decide⟩,by show(0:Int)=(p+q).num;rw[s0];rfl,by show(1:Int)=(p+q).den;rw[s0];rfl,rfl⟩⟩) _ Mr
  |false=>
   refine zc ?_;obtain⟨Ms,D3⟩:∃z,z=aG QR 20:=⟨_,rfl⟩;have QW:Ext h Ms:=by rw[D3];exact Mr.trans (au hA _ _)
   have l20:=QW.aC aq;rw[<-D3];have w3:arith .quo .u64 e k=e / k:=jo hA ue.1 ue.2 f3;have w4:arith .quo .u64 d k=d / k:=jo hA ud.1 ud.2 f3;have v3:=c7 ue f3;have v4:=c7 ud f3;generalize e / k=E2 at *;generalize d / k=D2 at *;refine⟨dy hA om,?_⟩;refine zc ?_;first|rw[cd,w2]|rw[ce,w1]
   refine⟨dy hA om,?_⟩;refine zc ?_;first|rw[ce,w3]|rw[cd,w4]
   refine gW hA (aB hA Ms) (by first|exact v2|exact v1) (by first|exact v3|exact v4) (fun u0 u1 u2 u3 hu du eu=>⟨_,_,_,_,rfl,?_⟩);refine zc ?_;obtain⟨QX,D4⟩:∃z,z=az Ms hu:=⟨_,rfl⟩;have VJ:Ext h QX:=by rw[D4];exact cI hA aq QW eu
   rw[<-D4,<-Gc];refine qF hA (aB hA QX) dY du f1 f2 (fun n' d' e' hv ho ev=>⟨_,_,_,rfl,?_⟩);refine zq ?_;exact hQ _ _ _ (.inr ⟨p,q,hp,hq,ho⟩) _ (cI hA aq VJ ev)
 |false=>
  have lt:B<=A:=by
   by_cases w:A<B
   ·have:=hr.2 w;cases this
   ·omega
  refine zc ?_;refine HG hA lB dz dw lt (fun t0 t1 t2 t3 hU dT eU=>⟨_,_,_,_,rfl,?_⟩);refine zc ?_;have eT:=eB.trans eU;obtain⟨mi,Gc⟩:∃z,z=cmp .lss n 0:=⟨_,rfl⟩;have key:∀k:Int,k=Int.gcd g ((A-B) % g)->(p+q).num=(if mi=true then -((A-B) / k)else(A-B) / k)/\((p+q).den:Int)=D*(e / k)/\0<k/\k<=g/\0<=A-B:=fun k hk=>by
   obtain⟨f1,f2,f3,f4,f5,_⟩:=mX hp hq hg fA fB (T:=A-B) (neg:=mi) (.inr (.inl ⟨c,lt,rfl,by rw[Gc,aA hA];exact dec n⟩)) hk;exact⟨f1,by rw[f2,hD],f3,f4,f5⟩
  generalize A-B=T at *;have lT:=eT.aC aq;refine qJ hA lT dT Ls om (fun _ _ _ _ r1 Xr _ zo VD=>⟨_,_,_,_,_,rfl,?_⟩);have QU:=eT.trans VD;have VE:=QU.aC aq;refine zc ?_;have r10:0<=r1:=by rw[zo];exact Int.emod_nonneg _ om
  have r11:r1<g:=by rw[zo];exact Int.emod_lt_of_pos _ Ls
  refine n7 hA VE (by unfold u64;omega) (by unfold u64;omega) (fun k hk Xs VF=>⟨_,rfl,?_⟩);have QV:=QU.trans VF;have VH:=QV.aC aq;refine zc ?_;obtain⟨f1,f2,f3,f4,f5⟩:=key k (by rw[hk,zo,Int.gcd_comm]);refine qJ hA VH dT f3 om (fun y0 y1 y2 y3 _ QR dY _ VI=>⟨_,_,_,_,_,rfl,?_⟩);have Mr:=QV.trans VI;have lU3:=Mr.aC aq;refine zc ?_;obtain⟨rb,EE,vw⟩:=YL y0 y1 y2 y3;rw[qB hA];refine⟨FX,rb,EE,?_⟩;obtain⟨Y,hY⟩:∃z,z=T / k:=⟨_,rfl⟩;rw[<-hY]at f1 dY;have Y0:0<=Y:=by rw[hY];exact Int.ediv_nonneg f5 om
  cases rb with
  |true=>
   refine zc ?_;have y0:Y=0:=by
    obtain⟨g1,g2,g3,g4⟩:=vw.1 rfl;obtain⟨g5,_⟩:=dY;omega
   have s0:p+q=0:=Rat.num_eq_zero.1 (by rw[f1,y0];split<;>rfl);exact hQ _ _ _ (.inr ⟨p,q,hp,hq,.inl ⟨by show fits (p+q);rw[s0];exact⟨by decide,by decide,by decide⟩,by show(0:Int)=(p+q).num;rw[s0];rfl,by show(1:Int)=(p+q).den;rw[s0];rfl,rfl⟩⟩) _ Mr
  |false=>
   refine zc ?_;obtain⟨Ms,D3⟩:∃z,z=aG QR 20:=⟨_,rfl⟩;have QW:Ext h Ms:=by rw[D3];exact Mr.trans (au hA _ _)
   have l20:=QW.aC aq;rw[<-D3];have w3:arith .quo .u64 e k=e / k:=jo hA ue.1 ue.2 f3;have w4:arith .quo .u64 d k=d / k:=jo hA ud.1 ud.2 f3;have v3:=c7 ue f3;have v4:=c7 ud f3;generalize e / k=E2 at *;generalize d / k=D2 at *;refine⟨dy hA om,?_⟩;refine zc ?_;first|rw[cd,w2]|rw[ce,w1]
   refine⟨dy hA om,?_⟩;refine zc ?_;first|rw[ce,w3]|rw[cd,w4]
   refine gW hA (aB hA Ms) (by first|exact v2|exact v1) (by first|exact v3|exact v4) (fun u0 u1 u2 u3 hu du eu=>⟨_,_,_,_,rfl,?_⟩);refine zc ?_;obtain⟨QX,D4⟩:∃z,z=az Ms hu:=⟨_,rfl⟩;have VJ:Ext h QX:=by rw[D4];exact cI hA aq QW eu
   rw[<-D4,<-Gc];refine qF hA (aB hA QX) dY du f1 f2 (fun n' d' e' hv ho ev=>⟨_,_,_,rfl,?_⟩);refine zq ?_;exact hQ _ _ _ (.inr ⟨p,q,hp,hq,ho⟩) _ (cI hA aq VJ ev)
theorem Ph{h:af}(aq:h.low<=h.next){n d:Int}(h0:-1000000000000000000<=n)(h1:n<=1000000000000000000){Q:Value->af->Prop}(hQ:Q (.agg #[.int .i64 (-n),.int .i64 d]) h):call 35 [.agg #[.int .i64 n,.int .i64 d]] h Q:=by
 refine hA.aN Tryz.func35 x35.2 (hA.alike _ _ _ rfl) aq (zc ?_);rw[show neg .i64 n=-n by rw[vc hA,wrap64 om om];omega];exact hQ
theorem HH{h:af}(aq:h.low<=h.next){n d m e:Int}(hn:i64 n)(hd:i64 d)(hm:i64 m)(he:i64 e){Q:Value->af->Prop}
  (hQ:∀a b r,DV (· - ·) n d m e a b r->∀h',Ext h h'->Q (.tuple #[.agg #[.int .i64 a,.int .i64 b],.int .i64 r]) h'):call 13 [.agg #[.int .i64 n,.int .i64 d],.agg #[.int .i64 m,.int .i64 e]] h Q:=by
 refine hA.aN Tryz.func13 x13.2 (hA.alike _ _ _ rfl) aq (zc ?_);refine m7 hA aq hn hd hm he (fun r1 h1 k1 x1=>⟨_,rfl,?_⟩);refine zc ?_;refine br (r1≠0) (by rw[bT hA]) (fun c1=>?_) (fun c1=>?_)<;>refine zc ?_
 ·refine m7 hA (x1.aC aq) hn hd hm he (fun r3 h3 k3 x3=>⟨_,rfl,?_⟩)
  refine zc ?_;rcases k1 with ⟨q,_⟩|⟨rfl,q⟩
  ·exact absurd q c1
  ·rcases k3 with ⟨_,q3⟩|⟨rfl,_⟩
   ·exact absurd q3 q
   ·exact hQ _ _ _ (.inl ⟨q,rfl,rfl,rfl⟩) _ (x1.trans x3)
 rcases k1 with ⟨_,⟨p,hp⟩,q,hq⟩|⟨q,_⟩
 rotate_left
 ·omega
 have hg:=hq.neg;obtain⟨h9,iT⟩:∃z,z=aG h1 8:=⟨_,rfl⟩;have e9:Ext h h9:=by rw[iT];exact x1.trans (au hA _ _)
 have l9:=e9.aC aq;rw[<-iT];have b1:=hq.1 ▸ hq.2.2.1;have b2:=hq.1 ▸ hq.2.2.2.1;refine Ph hA (aB hA h9) b1 b2 ⟨_,_,rfl,?_⟩;refine zc ?_;rw[bR hA l9];refine BM hA (aB hA h9) hn hd hg.kf hg.kQ (fun a b r ho hz ez=>⟨_,_,_,rfl,?_⟩);refine zq ?_;refine hQ a b r (.inr ⟨p,q,hp,hq,?_⟩) _ (cI hA aq e9 ez);rcases ho with ⟨w,_⟩|⟨p',q',vt,yX,ho⟩
 ·exact absurd ⟨⟨p,hp⟩,⟨-q,hg⟩⟩ w
 ·obtain rfl:=hp.uniq vt
  obtain rfl:=hg.uniq yX;show oK (p-q) a b r;rw[Rat.sub_eq_add_neg];exact ho
