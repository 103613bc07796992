import Derived.Test.YtdpbiegfljmhmaaFracA
import Derived.Test.YtdpbiegfljmhmaaFracT
set_option linter.unusedSimpArgs false
set_option linter.unusedVariables false
namespace Go.Proofs.Ytdpbiegfljmhmaa
open Go.Sim
set_option maxRecDepth 100000
structure mP(N d0 d1 d2 d3:Int):Prop where
 eq:N=d0+4294967296*d1+18446744073709551616*d2+79228162514264337593543950336*d3
 r0:0<=d0/\d0<4294967296
 r1:0<=d1/\d1<4294967296
 r2:0<=d2/\d2<4294967296
 r3:0<=d3/\d3<4294967296
theorem no{P:Prop}(h:¬P):(false=true)↔P:=⟨(fun q=>by cases q),fun q=>absurd q h⟩
structure vQ(h0 h:af)(ba bb:Nat)(A B:List Int):Prop where
 ext:Ext h0 h
 oa:bG h ba 4 (A.map (.int .u64))
 ob:bG h bb 4 (B.map (.int .u64))
 la:h0.next<=ba/\ba<h.next
 lb:bb<h.next
 ne:bb≠ba
 len:A.length=4/\B.length=4
theorem vQ.more{h0 h h':af}{ba bb:Nat}{A B:List Int}(t:vQ h0 h ba bb A B)(e:Ext h h'):vQ h0 h' ba bb A B:=
 ⟨t.ext.trans e,t.oa.ext e t.la.2,t.ob.ext e t.lb,⟨t.la.1,Nat.lt_of_lt_of_le t.la.2 e.next⟩,Nat.lt_of_lt_of_le t.lb e.next,t.ne,t.len⟩
theorem vQ.put{h0 h:af}{ba bb:Nat}{A B:List Int}(t:vQ h0 h ba bb A B){i:Nat}(hi:i<4)(v:Int):∃h',h.write ba i [.int .u64 v]=some h'/\vQ h0 h' ba bb (A.set i v) B:=by
 obtain⟨h',w1,w2,w3⟩:=t.oa.setInt (i:=i) (by rw[t.len.1];exact hi) v;exact⟨h',w1,w3.ext t.ext t.la.1,w2,w3.own t.ob t.ne,by rw[w3.next];exact t.la,by rw[w3.next];exact t.lb,t.ne,by simpa using t.len⟩
variable{F:aM}{call head arith cmp e0 bnot bsame conv neg f0 l0 m0 o0 place p0 nz q0 rd wr push next i2 j2 i3 j3 l3 n3 o3 z3 a4 d4 i4 j4 l4 fresh lowered bump wrote addN lt ne n4 o4 u4 yn y4 z4 a5 d5 i5 j5:_}(hA:AP F ⟨call,head,arith,cmp,e0,bnot,bsame,conv,neg,f0,l0,m0,o0,place,p0,nz,q0,rd,wr,push,next,i2,j2,i3,j3,l3,n3,o3,z3,a4,d4,i4,j4,l4,fresh,lowered,bump,wrote,addN,lt,ne,n4,o4,u4,yn,y4,z4,a5,d5,i5,j5⟩)
include hA
theorem lV{h:af}(hlow:h.low<=h.next){n:Int}(hn:i64 n){Q:Value->af->Prop}(hQ:∀s:Int,s=n.natAbs->Q (.int .u64 s) h):call 40 [.int .i64 n] h Q:=by
 obtain⟨h0,h1⟩:=hn;refine hA.bodyR Try.func40 r40_ok (hA.alike _ _ _ rfl) hlow (zc ?_);refine br (0<=n) (by rw[bE hA]) (fun c=>?_) (fun c=>?_)<;>refine zc ?_
 ·exact hQ _ (by rw[oS hA,lQ];omega)
 ·have e1:arith .add .i64 n 1=n+1:=aB hA (by omega) (by omega)
  have e2:neg .i64 (n+1)=-(n+1):=by rw[rY hA,fX (by omega) (by omega)];omega
  have e3:conv .u64 (-(n+1))=-(n+1):=ke hA (by omega) (by omega);have e4:arith .add .u64 (-(n+1)) 1=-(n+1)+1:=ku hA (by omega) (by omega);refine hQ _ ?_;rw[e1,e2,e3,e4];omega
theorem jy{h:af}(hlow:h.low<=h.next){n d:Int}(hn:i64 n)(hd:i64 d){Q:Value->af->Prop}
  (hQ:∀(e:Int) h',(e=0/\oN n d)\/(e=8/\¬oN n d)->Ext h h'->Q (.int .i64 e) h'):call 61 [.agg #[.int .i64 n,.int .i64 d]] h Q:=by
 have bad:¬(1<=d/\d<=1000000000000000000/\-1000000000000000000<=n/\n<=1000000000000000000/\Int.gcd n d=1)->¬oN n d:=fun w q=>w ((qr n d).1 q)
 refine hA.bodyR Try.func61 r61_ok (hA.alike _ _ _ rfl) hlow (zc ?_);obtain⟨h9,hh9⟩:∃z,z=bump h 28:=⟨_,rfl⟩;have e9:Ext h h9:=by rw[hh9];exact aq hA _ _
 have l9:=e9.lowOK hlow;rw[<-hh9];refine br (d<1) (by rw[au hA]) (fun c1=>?_) (fun c1=>?_)<;>refine zc ?_
 ·exact hQ _ _ (.inr ⟨rfl,bad (by omega)⟩) e9
 refine br (1000000000000000000<d) (by rw[dc hA]) (fun c2=>?_) (fun c2=>?_)<;>refine zc ?_
 ·exact hQ _ _ (.inr ⟨rfl,bad (by omega)⟩) e9
 refine br (n < -1000000000000000000) (by rw[au hA]) (fun c3=>?_) (fun c3=>?_)<;>refine zc ?_
 ·exact hQ _ _ (.inr ⟨rfl,bad (by omega)⟩) e9
 refine br (1000000000000000000<n) (by rw[dc hA]) (fun c4=>?_) (fun c4=>?_)<;>refine zc ?_
 ·exact hQ _ _ (.inr ⟨rfl,bad (by omega)⟩) e9
 refine zc ?_;have ud:u64 d:=by unfold u64;omega
 rw[ke hA ud.1 ud.2];refine lV hA (aw hA h9) hn (fun s hs=>⟨_,rfl,?_⟩);refine zc ?_;rw[bJ hA l9];refine lu hA (aw hA h9) (by unfold u64;omega) ud (fun g hg hz ez=>⟨_,rfl,?_⟩);refine zc ?_;obtain⟨hX,hhX⟩:∃z,z=lowered h9 hz:=⟨_,rfl⟩;have eX:Ext h hX:=by rw[hhX];exact bP hA hlow e9 ez
 rw[<-hhX];have hgg:g=Int.gcd n d:=by
  rw[hg,hs];rfl
 refine br (g≠1) (by rw[bL hA]) (fun c5=>?_) (fun c5=>?_)<;>refine zc ?_
 ·exact hQ _ _ (.inr ⟨rfl,bad (by omega)⟩) eX
 ·exact hQ _ _ (.inl ⟨rfl,(qr n d).2 (by omega)⟩) eX
theorem kK{h:af}(hlow:h.low<=h.next){n d m e:Int}(hn:i64 n)(hd:i64 d)(hm:i64 m)(he:i64 e){Q:Value->af->Prop}
  (hQ:∀(r:Int) h',(r=0/\oN n d/\oN m e)\/(r=8/\¬(oN n d/\oN m e))->Ext h h'->Q (.int .i64 r) h'):call 37 [.agg #[.int .i64 n,.int .i64 d],.agg #[.int .i64 m,.int .i64 e]] h Q:=by
 refine hA.bodyR Try.func37 r37_ok (hA.alike _ _ _ rfl) hlow (zc ?_);refine jy hA hlow hn hd (fun r1 h1 k1 x1=>⟨_,rfl,?_⟩);refine zc ?_;refine br (r1≠0) (by rw[bL hA]) (fun c1=>?_) (fun c1=>?_)<;>refine zc ?_
 ·refine jy hA (x1.lowOK hlow) hn hd (fun r3 h3 k3 x3=>⟨_,rfl,?_⟩)
  refine zc ?_;rcases k1 with ⟨q,_⟩|⟨rfl,q⟩
  ·exact absurd q c1
  ·rcases k3 with ⟨_,q3⟩|⟨rfl,_⟩
   ·exact absurd q3 q
   ·exact hQ _ _ (.inr ⟨rfl,fun w=>q w.1⟩) (x1.trans x3)
 refine jy hA (x1.lowOK hlow) hm he (fun r2 h2 k2 x2=>⟨_,rfl,?_⟩);refine zc ?_;rcases k1 with ⟨_,q1⟩|⟨q,_⟩
 ·rcases k2 with ⟨rfl,q2⟩|⟨rfl,q2⟩
  ·exact hQ _ _ (.inl ⟨rfl,q1,q2⟩) (x1.trans x2)
  ·exact hQ _ _ (.inr ⟨rfl,fun w=>q2 w.2⟩) (x1.trans x2)
 ·omega
theorem FE{h:af}(hlow:h.low<=h.next){n:Int}(hn:u64 n){Q:Value->af->Prop}(hQ:∀a b:Int,a=n % 4294967296->b=n / 4294967296->Q (.agg #[.int .u64 a,.int .u64 b,.int .u64 0,.int .u64 0]) h):call 63 [.int .u64 n] h Q:=by
 refine hA.bodyR Try.func63 r63_ok (hA.alike _ _ _ rfl) hlow (zc ?_);refine⟨geZ_ok hA (by omega),?_⟩;refine zc ?_;refine hQ _ _ (lF hA hn.1 hn.2) (mS hA hn.1)
structure uh(h0 h:af)(bx by_ bo:Nat)(X Y O:List Int):Prop where
 ext:Ext h0 h
 ox:bG h bx 4 (X.map (.int .u64))
 oy:bG h by_ 4 (Y.map (.int .u64))
 oo:bG h bo 4 (O.map (.int .u64))
 lx:bx<h.next
 ly:by_<h.next
 lo:h0.next<=bo/\bo<h.next
 nx:bx≠bo
 ny:by_≠bo
 len:X.length=4/\Y.length=4/\O.length=4
omit hA in
theorem uh.more{h0 h h':af}{bx by_ bo:Nat}{X Y O:List Int}(t:uh h0 h bx by_ bo X Y O)(e:Ext h h'):uh h0 h' bx by_ bo X Y O:=
 ⟨t.ext.trans e,t.ox.ext e t.lx,t.oy.ext e t.ly,t.oo.ext e t.lo.2,Nat.lt_of_lt_of_le t.lx e.next,Nat.lt_of_lt_of_le t.ly e.next,⟨t.lo.1,Nat.lt_of_lt_of_le t.lo.2 e.next⟩,t.nx,t.ny,t.len⟩
omit hA in
theorem uh.put{h0 h:af}{bx by_ bo:Nat}{X Y O:List Int}(t:uh h0 h bx by_ bo X Y O){i:Nat}(hi:i<4)(v:Int):∃h',h.write bo i [.int .u64 v]=some h'/\uh h0 h' bx by_ bo X Y (O.set i v):=by
 obtain⟨h',w1,w2,w3⟩:=t.oo.setInt (i:=i) (by rw[t.len.2.2];exact hi) v;exact⟨h',w1,w3.ext t.ext t.lo.1,w3.own t.ox t.nx,w3.own t.oy t.ny,w2,by rw[w3.next];exact t.lx,by rw[w3.next];exact t.ly,by rw[w3.next];exact t.lo,t.nx,t.ny,by simpa using t.len⟩
theorem vZ{h0 h:af}{bx by_ bo:Nat}{X Y O:List Int}(t:uh h0 h bx by_ bo X Y O){i k c:Int}(i0:0<=i)(i1:i<2)(k0:0<=k)(k1:k<2){K:List Value}{Q:Exit->SS->Prop}
  (hm:arith .mul .u64 (dL X i) (dL Y k)=dL X i*dL Y k) {w:Int} (hw:w=c+(dL O (i+k)+dL X i*dL Y k)) (hw0:0<=c) (hw1:0<=dL O (i+k)+dL X i*dL Y k) (hw2:w<18446744073709551616)
  (hQ:∀h',uh h0 h' bx by_ bo X Y (O.set (i+k).toNat (w % 4294967296))->head 39 8 1 ⟨[(4,.pointer (some ⟨0,0,some 0⟩)),(5,.pointer (some ⟨bx,0,none⟩)),(6,.pointer (some ⟨by_,0,none⟩)),(7,.pointer (some ⟨bo,0,none⟩)),(8,.int .i64 i),(9,.int .u64 (w / 4294967296)),(10,.int .i64 (k+1))],1,[(0,K)],h'⟩ Q) :
  head 39 8 1 ⟨[(4,.pointer (some ⟨0,0,some 0⟩)),(5,.pointer (some ⟨bx,0,none⟩)),(6,.pointer (some ⟨by_,0,none⟩)),(7,.pointer (some ⟨bo,0,none⟩)),(8,.int .i64 i),(9,.int .u64 c),(10,.int .i64 k)],1,[(0,K)],h⟩ Q:=by
 refine hA.roundR Try.func39 r39_ok (zc ?_);refine br (k<2) (by rw[au hA]) (fun _=>?_) (fun q=>absurd k1 q)<;>refine zc ?_;have eik:arith .add .i64 i k=i+k:=aB hA (by omega) (by omega);obtain⟨j,hj⟩:∃z,z=i+k:=⟨_,rfl⟩;rw[eik,<-hj];rw[<-hj]at hw hw1 hQ;obtain⟨h9,hh9⟩:∃z,z=bump h 19:=⟨_,rfl⟩;have e9:Ext h h9:=by rw[hh9];exact aq hA _ _
 have t9:=t.more e9;rw[<-hh9];have rdO:∀(b:Nat) (l:List Int) (z:Int),bG h9 b 4 (l.map (.int .u64))->l.length=4->0<=z->z<4->rd h9 b (place (addN 0 0) z 1) 1 [.int .u64 (dL l z)]:=by
  intro b l z ho hl z0 z1;rw[wT hA,dV hA,cB hA];have:=ho.getInt (i:=z.toNat) (by omega);rw[show 0+0+z.toNat*1=z.toNat by omega];exact this
 have r1:=rdO bo O j t9.oo t9.len.2.2 (by omega) (by omega);have r2:=rdO bx X i t9.ox t9.len.1 (by omega) (by omega);have r3:=rdO by_ Y k t9.oy t9.len.2.1 (by omega) (by omega);have pj:place (addN 0 0) j 1=j.toNat:=by rw[dV hA,cB hA];omega
 generalize dL O j=o at *;generalize dL X i=x at *;generalize dL Y k=y at *;refine⟨jh hA (by omega) (by omega),?_⟩;refine zc ?_;refine⟨o,r1,?_⟩;refine zc ?_;refine⟨jh hA i0 (by omega),?_⟩;refine zc ?_;refine⟨x,r2,?_⟩;refine zc ?_;refine⟨jh hA k0 (by omega),?_⟩;refine zc ?_;refine⟨y,r3,?_⟩;refine zc ?_;have ea:arith .add .u64 o (x*y)=o+x*y:=ku hA hw1 (by omega);have eb:arith .add .u64 c (o+x*y)=w:=by rw[ku hA (by omega) (by omega),hw]
 rw[hm,ea,eb,eik,<-hj];refine⟨jh hA (by omega) (by omega),?_⟩;refine zc ?_;have hw3:0<=w:=by omega
 rw[lF hA hw3 hw2];obtain⟨h',p1,p2⟩:=t9.put (i:=j.toNat) (by omega) (w % 4294967296);rw[pj];obtain⟨v,hv⟩:∃z,z=w % 4294967296:=⟨_,rfl⟩;rw[<-hv]at p1 p2 ⊢;refine⟨h',jd hA p1,?_⟩;refine zc ?_;refine⟨geZ_ok hA (by omega),?_⟩;refine zc ?_;rw[mS hA hw3,aB hA (by omega) (by omega)];exact hQ h' (by rw[<-hv];exact p2)
theorem uv{h0 h:af}{bx by_ bo:Nat}{X Y O:List Int}(t:uh h0 h bx by_ bo X Y O){i:Int}(i0:0<=i)(i1:i<2){K:List Value}{Q:Exit->SS->Prop}{w1 w2 v:Int}{O1 O2 O3:List Int}
  (m1:arith .mul .u64 (dL X i) (dL Y 0)=dL X i*dL Y 0) (m2:arith .mul .u64 (dL X i) (dL Y 1)=dL X i*dL Y 1)
  (hw1:w1=0+(dL O (i+0)+dL X i*dL Y 0)) (hO1:O1=O.set (i+0).toNat (w1 % 4294967296)) (hw2:w2=w1 / 4294967296+(dL O1 (i+1)+dL X i*dL Y 1)) (hO2:O2=O1.set (i+1).toNat (w2 % 4294967296)) (hv:v=dL O2 (i+2)+w2 / 4294967296) (hO3:O3=O2.set (i+2).toNat v)
  (b1:0<=dL O (i+0)+dL X i*dL Y 0) (b2:w1<18446744073709551616) (b3:0<=dL O1 (i+1)+dL X i*dL Y 1) (b4:w2<18446744073709551616) (b5:0<=dL O2 (i+2)) (b6:v<18446744073709551616)
  (hQ:∀h',uh h0 h' bx by_ bo X Y O3->head 39 4 1 ⟨[(4,.pointer (some ⟨0,0,some 0⟩)),(5,.pointer (some ⟨bx,0,none⟩)),(6,.pointer (some ⟨by_,0,none⟩)),(7,.pointer (some ⟨bo,0,none⟩)),(8,.int .i64 (i+1))],1,[(0,K)],h'⟩ Q) :
  head 39 4 1 ⟨[(4,.pointer (some ⟨0,0,some 0⟩)),(5,.pointer (some ⟨bx,0,none⟩)),(6,.pointer (some ⟨by_,0,none⟩)),(7,.pointer (some ⟨bo,0,none⟩)),(8,.int .i64 i)],1,[(0,K)],h⟩ Q:=by
 refine hA.roundR Try.func39 r39_ok (zc ?_);refine br (i<2) (by rw[au hA]) (fun _=>?_) (fun q=>absurd i1 q)<;>refine zc ?_;refine vZ hA t i0 i1 (k:=0) (c:=0) (by omega) (by omega) m1 hw1 (by omega) b1 b2 (fun h1 t1=>?_);rw[<-hO1]at t1;rw[show(0:Int)+1=1 from rfl];refine vZ hA t1 i0 i1 (k:=1) (c:=w1 / 4294967296) (by omega) (by omega) m2 hw2 (by omega) b3 b4 (fun h2 t2=>?_);rw[<-hO2]at t2;rw[show(1:Int)+1=2 from rfl];obtain⟨c2,hc2⟩:∃z,z=w2 / 4294967296:=⟨_,rfl⟩;rw[<-hc2]at hv ⊢;refine hA.roundR Try.func39 r39_ok (zc ?_);refine br (False) (by rw[au hA];rfl) (fun q=>q.elim) (fun _=>?_)<;>refine zc ?_;have eik:arith .add .i64 i 2=i+2:=aB hA (by omega) (by omega);obtain⟨j,hj⟩:∃z,z=i+2:=⟨_,rfl⟩;rw[eik,<-hj];rw[<-hj]at hv hO3 b5;refine⟨jh hA (by omega) (by omega),?_⟩;refine zc ?_;have pj:place (addN 0 0) j 1=j.toNat:=by rw[dV hA,cB hA];omega
 have r1:rd h2 bo (place (addN 0 0) j 1) 1 [.int .u64 (dL O2 j)]:=by
  rw[pj,wT hA];exact t2.oo.getInt (i:=j.toNat) (by have:=t2.len.2.2;omega)
 obtain⟨o,ho⟩:∃z,z=dL O2 j:=⟨_,rfl⟩;rw[<-ho]at r1 hv b5;refine⟨o,r1,?_⟩;refine zc ?_;have hc0:0<=c2:=by omega
 rw[ku hA (by omega) (by omega),<-hv];refine⟨jh hA (by omega) (by omega),?_⟩;refine zc ?_;obtain⟨h',p1,p2⟩:=t2.put (i:=j.toNat) (by omega) v;rw[pj];refine⟨h',jd hA p1,?_⟩;refine zc ?_;rw[aB hA (by omega) (by omega)];exact hQ h' (by rw[hO3];exact p2)
theorem fF{h:af}(hlow:h.low<=h.next){x y:Int}(hx:u64 x)(hy:u64 y){Q:Value->af->Prop}
  (hQ:∀d0 d1 d2 d3 h',mP (x*y) d0 d1 d2 d3->Ext h h'->Q (.agg #[.int .u64 d0,.int .u64 d1,.int .u64 d2,.int .u64 d3]) h'):call 39 [.int .u64 x,.int .u64 y] h Q:=by
 refine hA.bodyR Try.func39 r39_ok (hA.alike _ _ _ rfl) hlow (zc ?_);refine FE hA hlow hx (fun x0 x1 hx0 hx1=>⟨_,_,_,_,rfl,?_⟩);refine zc ?_;refine FE hA hlow hy (fun y0 y1 hy0 hy1=>⟨_,_,_,_,rfl,?_⟩);refine zc ?_;rw[bV hA,cM hA,bV hA,cM hA];have e1:Ext h (h.push 4 [Value.int .u64 0,Value.int .u64 0,Value.int .u64 0,Value.int .u64 0]):=.push _ _ _;have o1:bG (h.push 4 [Value.int .u64 0,Value.int .u64 0,Value.int .u64 0,Value.int .u64 0]) h.next 4 [Value.int .u64 0,Value.int .u64 0,Value.int .u64 0,Value.int .u64 0]:=bG.push _ _ _;have n1:(h.push 4 [Value.int .u64 0,Value.int .u64 0,Value.int .u64 0,Value.int .u64 0]).next=h.next+1:=rfl;generalize h.push 4 [Value.int .u64 0,Value.int .u64 0,Value.int .u64 0,Value.int .u64 0]=h1 at *;have e2:Ext h1 (h1.push 4 [Value.int .u64 0,Value.int .u64 0,Value.int .u64 0,Value.int .u64 0]):=.push _ _ _;have o2:bG (h1.push 4 [Value.int .u64 0,Value.int .u64 0,Value.int .u64 0,Value.int .u64 0]) h1.next 4 [Value.int .u64 0,Value.int .u64 0,Value.int .u64 0,Value.int .u64 0]:=bG.push _ _ _;have n2:(h1.push 4 [Value.int .u64 0,Value.int .u64 0,Value.int .u64 0,Value.int .u64 0]).next=h1.next+1:=rfl;generalize h1.push 4 [Value.int .u64 0,Value.int .u64 0,Value.int .u64 0,Value.int .u64 0]=h2 at *;obtain⟨bx,hbx⟩:∃z,z=h.next:=⟨_,rfl⟩;obtain⟨by_,hby⟩:∃z,z=h1.next:=⟨_,rfl⟩;rw[<-hbx]at o1;rw[<-hby]at o2;rw[<-hbx,<-hby];have o1':=o1.ext e2 (by omega);obtain⟨h3,w1,p1,q1⟩:=o1'.write (o:=0) (vs:=[.int .u64 x0,.int .u64 x1,.int .u64 0,.int .u64 0]) (by simp);refine⟨h3,jd hA w1,?_⟩;refine zc ?_;have p2:=q1.own (o2.ext (.refl h2) (by omega)) (by omega:by_≠bx);obtain⟨h4,w2,p3,q2⟩:=p2.write (o:=0) (vs:=[.int .u64 y0,.int .u64 y1,.int .u64 0,.int .u64 0]) (by simp);refine⟨h4,jd hA w2,?_⟩;refine zc ?_;have p4:=q2.own p1 (by omega:bx≠by_);have m1:=q1.next;have m2:=q2.next;have e4:Ext h h4:=q2.ext (q1.ext (e1.trans e2) (by omega)) (by omega);rw[bV hA,cM hA];have e5:Ext h4 (h4.push 4 [Value.int .u64 0,Value.int .u64 0,Value.int .u64 0,Value.int .u64 0]):=.push _ _ _;have o5:bG (h4.push 4 [Value.int .u64 0,Value.int .u64 0,Value.int .u64 0,Value.int .u64 0]) h4.next 4 [Value.int .u64 0,Value.int .u64 0,Value.int .u64 0,Value.int .u64 0]:=bG.push _ _ _;have n5:(h4.push 4 [Value.int .u64 0,Value.int .u64 0,Value.int .u64 0,Value.int .u64 0]).next=h4.next+1:=rfl;generalize h4.push 4 [Value.int .u64 0,Value.int .u64 0,Value.int .u64 0,Value.int .u64 0]=h5 at *;obtain⟨bo,hbo⟩:∃z,z=h4.next:=⟨_,rfl⟩;rw[<-hbo]at o5;rw[<-hbo];obtain⟨h6,w3,p5,q3⟩:=o5.write (o:=0) (vs:=[Value.int .u64 0,Value.int .u64 0,Value.int .u64 0,Value.int .u64 0]) (by simp);refine⟨h6,jd hA w3,?_⟩;refine zc ?_;have m3:=q3.next;have t0:uh h h6 bx by_ bo [x0,x1,0,0] [y0,y1,0,0] [0,0,0,0]:=
  ⟨q3.ext (e4.trans e5) (by omega),q3.own (bG.ext p4 e5 (by omega)) (by omega),q3.own (bG.ext p3 e5 (by omega)) (by omega),p5,by omega,by omega,⟨by omega,by omega⟩,by omega,by omega,rfl,rfl,rfl⟩
 obtain⟨k1,k2,k3,k4,k5,_⟩:=GD hx.1 hx.2 hy.1 hy.2 rfl rfl rfl rfl rfl rfl;rw[<-hx0,<-hy0,<-hx1,<-hy1]at k5;rw[<-hx0,<-hy0]at k1;rw[<-hx1,<-hy0]at k2;rw[<-hx0,<-hy1]at k3;rw[<-hx1,<-hy1]at k4;obtain⟨w1,hw1⟩:∃z,z=x0*y0:=⟨_,rfl⟩;obtain⟨w2,hw2⟩:∃z,z=w1 / 4294967296+x0*y1:=⟨_,rfl⟩;obtain⟨w3,hw3⟩:∃z,z=w2 % 4294967296+x1*y0:=⟨_,rfl⟩;obtain⟨w4,hw4⟩:∃z,z=w3 / 4294967296+(w2 / 4294967296+x1*y1):=⟨_,rfl⟩;have g1:arith .mul .u64 x0 y0=x0*y0:=kZ hA k1.1 (by omega);have g2:arith .mul .u64 x0 y1=x0*y1:=kZ hA k3.1 (by omega);have g3:arith .mul .u64 x1 y0=x1*y0:=kZ hA k2.1 (by omega);have g4:arith .mul .u64 x1 y1=x1*y1:=kZ hA k4.1 (by omega);refine uv hA t0 (i:=0) (by omega) (by omega) (w1:=w1) (w2:=w2) (v:=w2 / 4294967296) (O1:=[w1 % 4294967296,0,0,0]) (O2:=[w1 % 4294967296,w2 % 4294967296,0,0]) (O3:=[w1 % 4294967296,w2 % 4294967296,w2 / 4294967296,0]) g1 g2
  (by show w1=0+(0+x0*y0);omega) rfl (by show w2=w1 / 4294967296+(0+x0*y1);omega) rfl (by show w2 / 4294967296=0+w2 / 4294967296;omega) rfl (by show 0<=0+x0*y0;omega) (by omega) (by show 0<=0+x0*y1;omega) (by omega) (by show(0:Int)<=0;omega) (by omega) (fun h7 t7=>?_)
 rw[show(0:Int)+1=1 from rfl];refine uv hA t7 (i:=1) (by omega) (by omega) (w1:=w3) (w2:=w4) (v:=w4 / 4294967296) (O1:=[w1 % 4294967296,w3 % 4294967296,w2 / 4294967296,0]) (O2:=[w1 % 4294967296,w3 % 4294967296,w4 % 4294967296,0]) (O3:=[w1 % 4294967296,w3 % 4294967296,w4 % 4294967296,w4 / 4294967296]) g3 g4
  (by show w3=0+(w2 % 4294967296+x1*y0);omega) rfl (by show w4=w3 / 4294967296+(w2 / 4294967296+x1*y1);omega) rfl (by show w4 / 4294967296=0+w4 / 4294967296;omega) rfl (by show 0<=w2 % 4294967296+x1*y0;omega) (by omega) (by show 0<=w2 / 4294967296+x1*y1;omega) (by omega) (by show(0:Int)<=0;omega) (by omega) (fun h8 t8=>?_)
 rw[show(1:Int)+1=2 from rfl];have hd:mP (x*y) (w1 % 4294967296) (w3 % 4294967296) (w4 % 4294967296) (w4 / 4294967296):=by
  refine⟨?_,by omega,by omega,by omega,by omega⟩;rw[k5];omega
 obtain⟨a,ha⟩:∃z,z=w1 % 4294967296:=⟨_,rfl⟩;obtain⟨b,hb⟩:∃z,z=w3 % 4294967296:=⟨_,rfl⟩;obtain⟨c,hc⟩:∃z,z=w4 % 4294967296:=⟨_,rfl⟩;obtain⟨d,hd'⟩:∃z,z=w4 / 4294967296:=⟨_,rfl⟩;rw[<-ha,<-hb,<-hc,<-hd']at hd t8;refine hA.roundR Try.func39 r39_ok (zc ?_);refine br (False) (by rw[au hA];rfl) (fun q=>q.elim) (fun _=>?_)<;>refine zc ?_;have rd4:h8.readG ⟨bo,0,none⟩ 4=some [.int .u64 a,.int .u64 b,.int .u64 c,.int .u64 d]:=t8.oo.readG (by simp);refine⟨a,b,c,d,gP hA rd4,?_⟩;refine zc ?_;exact hQ a b c d h8 hd t8.ext
theorem gZ{h:af}{b:Nat}{l:List Int}{z:Int}(ho:bG h b 4 (l.map (.int .u64)))(hl:l.length=4)(z0:0<=z)(z1:z<4):rd h b (place (addN 0 0) z 1) 1 [.int .u64 (dL l z)]:=by
 rw[wT hA,dV hA,cB hA];have:=ho.getInt (i:=z.toNat) (by omega);rw[show 0+0+z.toNat*1=z.toNat by omega];exact this
theorem mm{h:af}{ba bb:Nat}{A B:List Int}(oa:bG h ba 4 (A.map (.int .u64)))(ob:bG h bb 4 (B.map (.int .u64)))(la:ba<h.next)(lb:bb<h.next)(hl:A.length=4)(hk:B.length=4){i:Int}(i0:0<=i)(i1:i<4){Q:Exit->SS->Prop}
  (h1:dL A i≠dL B i->∀e kn K h',Ext h h'->Q .ret ⟨(4,.bool (cmp .lss (dL A i) (dL B i))) :: e,kn,K,h'⟩)
  (h2:dL A i=dL B i->∀h',Ext h h'->head 42 2 0 ⟨[(2,.pointer (some ⟨ba,0,none⟩)),(3,.pointer (some ⟨bb,0,none⟩)),(5,.int .i64 (i-1))],0,[],h'⟩ Q) :
  head 42 2 0 ⟨[(2,.pointer (some ⟨ba,0,none⟩)),(3,.pointer (some ⟨bb,0,none⟩)),(5,.int .i64 i)],0,[],h⟩ Q:=by
 refine hA.roundR Try.func42 r42_ok (zc ?_);refine br (0<=i) (by rw[bE hA]) (fun _=>?_) (fun q=>absurd i0 q)<;>refine zc ?_;obtain⟨h9,hh9⟩:∃z,z=bump h 9:=⟨_,rfl⟩;have e9:Ext h h9:=by rw[hh9];exact aq hA _ _
 rw[<-hh9];have r1:=gZ hA (oa.ext e9 la) hl i0 i1;have r2:=gZ hA (ob.ext e9 lb) hk i0 i1;obtain⟨x,hx⟩:∃z,z=dL A i:=⟨_,rfl⟩;obtain⟨y,hy⟩:∃z,z=dL B i:=⟨_,rfl⟩;rw[<-hx]at r1 h1 h2;rw[<-hy]at r2 h1 h2;refine⟨jh hA i0 (by omega),?_⟩;refine zc ?_;refine⟨x,r1,?_⟩;refine zc ?_;refine⟨jh hA i0 (by omega),?_⟩;refine zc ?_;refine⟨y,r2,?_⟩;refine zc ?_;refine br (x≠y) (by rw[bL hA]) (fun c=>?_) (fun c=>?_)<;>refine zc ?_
 ·obtain⟨h10,hh10⟩:∃z,z=bump h9 10:=⟨_,rfl⟩
  have e10:Ext h9 h10:=by rw[hh10];exact aq hA _ _
  rw[<-hh10];have r3:=gZ hA (oa.ext (e9.trans e10) la) hl i0 i1;have r4:=gZ hA (ob.ext (e9.trans e10) lb) hk i0 i1;rw[<-hx]at r3;rw[<-hy]at r4;refine⟨jh hA i0 (by omega),?_⟩;refine zc ?_;refine⟨x,r3,?_⟩;refine zc ?_;refine⟨jh hA i0 (by omega),?_⟩;refine zc ?_;refine⟨y,r4,?_⟩;refine zc ?_;exact h1 c _ _ _ h10 (e9.trans e10)
 ·rw[bD hA (by omega) (by omega)]
  exact h2 (by omega) h9 e9
theorem EU{h:af}(hlow:h.low<=h.next){a0 a1 a2 a3 b0 b1 b2 b3 M N:Int}(hm:mP M a0 a1 a2 a3)(hn:mP N b0 b1 b2 b3){Q:Value->af->Prop}
  (hQ:∀(r:Bool) h',(r=true↔M<N)->Ext h h'->Q (.bool r) h'):call 42 [.agg #[.int .u64 a0,.int .u64 a1,.int .u64 a2,.int .u64 a3],.agg #[.int .u64 b0,.int .u64 b1,.int .u64 b2,.int .u64 b3]] h Q:=by
 refine hA.bodyR Try.func42 r42_ok (hA.alike _ _ _ rfl) hlow (zc ?_);rw[bV hA,cM hA,bV hA,cM hA];have e1:Ext h (h.push 4 [Value.int .u64 a0,Value.int .u64 a1,Value.int .u64 a2,Value.int .u64 a3]):=.push _ _ _;have o1:bG (h.push 4 [Value.int .u64 a0,Value.int .u64 a1,Value.int .u64 a2,Value.int .u64 a3]) h.next 4 [Value.int .u64 a0,Value.int .u64 a1,Value.int .u64 a2,Value.int .u64 a3]:=bG.push _ _ _;have n1:(h.push 4 [Value.int .u64 a0,Value.int .u64 a1,Value.int .u64 a2,Value.int .u64 a3]).next=h.next+1:=rfl;generalize h.push 4 [Value.int .u64 a0,Value.int .u64 a1,Value.int .u64 a2,Value.int .u64 a3]=h1 at *;have e2:Ext h1 (h1.push 4 [Value.int .u64 b0,Value.int .u64 b1,Value.int .u64 b2,Value.int .u64 b3]):=.push _ _ _;have o2:bG (h1.push 4 [Value.int .u64 b0,Value.int .u64 b1,Value.int .u64 b2,Value.int .u64 b3]) h1.next 4 [Value.int .u64 b0,Value.int .u64 b1,Value.int .u64 b2,Value.int .u64 b3]:=bG.push _ _ _;have n2:(h1.push 4 [Value.int .u64 b0,Value.int .u64 b1,Value.int .u64 b2,Value.int .u64 b3]).next=h1.next+1:=rfl;generalize h1.push 4 [Value.int .u64 b0,Value.int .u64 b1,Value.int .u64 b2,Value.int .u64 b3]=h2 at *;have e02:=e1.trans e2;have oa:bG h2 h.next 4 ([a0,a1,a2,a3].map (.int .u64)):=o1.ext e2 (by omega);have ob:bG h2 h1.next 4 ([b0,b1,b2,b3].map (.int .u64)):=o2;obtain⟨m1,m2,m3,m4,m5⟩:=hm;obtain⟨k1,k2,k3,k4,k5⟩:=hn;have res:∀(i:Int) (x y:Int),(M<N↔x<y)->∀h',Ext h2 h'->Q (.bool (cmp .lss x y)) h':=fun i x y hxy h' x'=>hQ _ _ (by rw[au hA,decide_eq_true_iff];exact hxy.symm) (e02.trans x')
 refine mm hA oa ob (by omega) (by omega) rfl rfl (i:=3) (by omega) (by omega) (fun c e kn K h' x'=>?_) (fun c3 h3 x3=>?_)
 ·refine zc ?_
  exact res 3 a3 b3 (by have c':a3≠b3:=c;omega) h' x'
 have c3':a3=b3:=c3;refine mm hA (oa.ext x3 (by omega)) (ob.ext x3 (by omega)) (by have:=x3.next;omega) (by have:=x3.next;omega) rfl rfl (i:=3-1) (by omega) (by omega) (fun c e kn K h' x'=>?_) (fun c2 h4 x4=>?_)
 ·refine zc ?_
  exact res 2 a2 b2 (by have c':a2≠b2:=c;omega) h' (x3.trans x')
 have c2':a2=b2:=c2;have x34:=x3.trans x4;refine mm hA (oa.ext x34 (by omega)) (ob.ext x34 (by omega)) (by have:=x34.next;omega) (by have:=x34.next;omega) rfl rfl (i:=3-1-1) (by omega) (by omega) (fun c e kn K h' x'=>?_) (fun c1 h5 x5=>?_)
 ·refine zc ?_
  exact res 1 a1 b1 (by have c':a1≠b1:=c;omega) h' (x34.trans x')
 have c1':a1=b1:=c1;have x35:=x34.trans x5;refine mm hA (oa.ext x35 (by omega)) (ob.ext x35 (by omega)) (by have:=x35.next;omega) (by have:=x35.next;omega) rfl rfl (i:=3-1-1-1) (by omega) (by omega) (fun c e kn K h' x'=>?_) (fun c0 h6 x6=>?_)
 ·refine zc ?_
  exact res 0 a0 b0 (by have c':a0≠b0:=c;omega) h' (x35.trans x')
 have c0':a0=b0:=c0;refine hA.roundR Try.func42 r42_ok (zc ?_);refine br (False) (by rw[bE hA];rfl) (fun q=>q.elim) (fun _=>?_)<;>refine zc ?_;exact hQ false h6 (no (by omega)) (e02.trans (x35.trans x6))
theorem wrote_no{X h':af}(e:Ext (fresh X) h'):wrote X h'=false:=by
 rw[sU hA];have h1:=e.lowG;rw[fM hA]at h1;have h2:Nat.min X.freshed.low X.freshed.next=X.next:=Nat.min_self _;rw[h2]at h1;exact bT h1
theorem yW{h:af}(hlow:h.low<=h.next){a0 a1 a2 a3 N:Int}(hN:mP N a0 a1 a2 a3){Q:Value->af->Prop}
  (hQ:∀(v:Int) (r:Bool) h',(r=true↔N<=1000000000000000000)->(N<=1000000000000000000->v=N)->Ext h h'->Q (.tuple #[.int .i64 v,.bool r]) h'):call 64 [.agg #[.int .u64 a0,.int .u64 a1,.int .u64 a2,.int .u64 a3]] h Q:=by
 obtain⟨m1,m2,m3,m4,m5⟩:=hN;refine hA.bodyR Try.func64 r64_ok (hA.alike _ _ _ rfl) hlow (zc ?_);rw[bV hA,cM hA];have e1:Ext h (h.push 4 [Value.int .u64 a0,Value.int .u64 a1,Value.int .u64 a2,Value.int .u64 a3]):=.push _ _ _;have o1:bG (h.push 4 [Value.int .u64 a0,Value.int .u64 a1,Value.int .u64 a2,Value.int .u64 a3]) h.next 4 ([a0,a1,a2,a3].map (.int .u64)):=bG.push _ _ _;generalize h.push 4 [Value.int .u64 a0,Value.int .u64 a1,Value.int .u64 a2,Value.int .u64 a3]=h1 at *;have r0:rd h1 h.next (place (addN 0 0) 0 1) 1 [.int .u64 a0]:=gZ hA o1 rfl (z:=0) (by omega) (by omega);have r1:rd h1 h.next (place (addN 0 0) 1 1) 1 [.int .u64 a1]:=gZ hA o1 rfl (z:=1) (by omega) (by omega);have r2:rd h1 h.next (place (addN 0 0) 2 1) 1 [.int .u64 a2]:=gZ hA o1 rfl (z:=2) (by omega) (by omega);have r3:rd h1 h.next (place (addN 0 0) 3 1) 1 [.int .u64 a3]:=gZ hA o1 rfl (z:=3) (by omega) (by omega);obtain⟨b,hb⟩:∃z,z=h.next:=⟨_,rfl⟩;rw[<-hb]at r0 r1 r2 r3 ⊢;refine⟨jh hA (by omega) (by omega),?_⟩;refine zc ?_;refine⟨a1,r1,?_⟩;refine zc ?_;refine⟨geZ_ok hA (by omega),?_⟩;refine zc ?_;refine⟨jh hA (by omega) (by omega),?_⟩;refine zc ?_;refine⟨a0,r0,?_⟩;refine zc ?_;obtain⟨L,hL⟩:∃z,z=a1*4294967296+a0:=⟨_,rfl⟩;have es:arith .shl .u64 a1 32=a1*2 ^ 32:=by rw[A7 hA a1 32 (by omega) (by rfl)];exact Int.emod_eq_of_lt (by omega) (by omega)
 have eo:arith .or .u64 (a1*2 ^ 32) a0=L:=by rw[K7 hA 32 m3.1 m2.1 (by omega) (by omega),hL];omega
 rw[es,eo];refine⟨jh hA (by omega) (by omega),?_⟩;refine zc ?_;refine⟨a2,r2,?_⟩;refine zc ?_;have em:arith .and .u64 L 9223372036854775807=L % 9223372036854775808:=B7 hA (by omega) (by omega) 63 (by omega) (by rfl);have ec:conv .i64 (L % 9223372036854775808)=L % 9223372036854775808:=i6 hA (by omega) (by omega);refine br (a2=0) (by rw[cJ hA]) (fun c2=>?_) (fun c2=>?_)<;>refine zc ?_
 rotate_left
 ·exact hQ _ _ h1 ⟨(fun q=>by cases q),fun q=>by omega⟩ (fun q=>by omega) e1
 refine⟨jh hA (by omega) (by omega),?_⟩;refine zc ?_;refine⟨a3,r3,?_⟩;refine zc ?_;refine br (a3=0) (by rw[cJ hA]) (fun c3=>?_) (fun c3=>?_)<;>refine zc ?_
 rotate_left
 ·exact hQ _ _ h1 ⟨(fun q=>by cases q),fun q=>by omega⟩ (fun q=>by omega) e1
 refine hQ _ _ h1 ?_ (fun q=>?_) e1
 ·rw[iw hA,decide_eq_true_iff]
  omega
 ·rw[em,ec]
  omega
theorem nW{h:af}(hlow:h.low<=h.next){q:Rat}{mi:Bool}{N D a0 a1 a2 a3 b0 b1 b2 b3:Int}(hN:mP N a0 a1 a2 a3)(hD:mP D b0 b1 b2 b3)(h1:q.num=if mi=true then -N else N)(h2:(q.den:Int)=D){Q:Value->af->Prop}
  (hQ:∀n d e h',mE q n d e->Ext h h'->Q (.tuple #[.agg #[.int .i64 n,.int .i64 d],.int .i64 e]) h'):call 45 [.bool mi,.agg #[.int .u64 a0,.int .u64 a1,.int .u64 a2,.int .u64 a3],.agg #[.int .u64 b0,.int .u64 b1,.int .u64 b2,.int .u64 b3]] h Q:=by
 have N0:0<=N:=by obtain⟨m1,m2,m3,m4,m5⟩:=hN;omega
 have D0:0<=D:=by obtain⟨m1,m2,m3,m4,m5⟩:=hD;omega
 have hf:fits q↔N<=1000000000000000000/\D<=1000000000000000000:=by
  unfold fits;rw[h1,h2];split<;>omega
 have bt:bnot true=false:=by rw[cI hA];rfl
 have bf:bnot false=true:=by rw[cI hA];rfl
 refine hA.bodyR Try.func45 r45_ok (hA.alike _ _ _ rfl) hlow (zc ?_);refine yW hA hlow hN (fun v1 r1 h3 k1 k2 x3=>⟨_,_,rfl,?_⟩);refine zc ?_;refine yW hA (x3.lowOK hlow) hD (fun v2 r2 h4 k3 k4 x4=>⟨_,_,rfl,?_⟩);have x:=x3.trans x4;cases r1 with
 |false=>
  refine zc ?_;rw[bf];refine zc ?_;exact hQ _ _ _ h4 (.inr ⟨fun w=>(by have:=k1.2 (hf.1 w).1;cases this),rfl,rfl,rfl⟩) x
 |true=>
 have e1:=k2 (k1.1 rfl);have l1:=k1.1 rfl;cases r2 with
 |false=>
  refine zc ?_;rw[bt];refine zc ?_;rw[bf];refine zc ?_;exact hQ _ _ _ h4 (.inr ⟨fun w=>(by have:=k3.2 (hf.1 w).2;cases this),rfl,rfl,rfl⟩) x
 |true=>
 have e2:=k4 (k3.1 rfl);have l2:=k3.1 rfl;have hfit:=hf.2 ⟨l1,l2⟩;have en:neg .i64 v1=-v1:=by rw[rY hA,fX (by omega) (by omega)];omega
 refine zc ?_;rw[bt];refine zc ?_;rw[bt];refine zc ?_;cases mi with
 |true=>
  refine zc ?_;rw[en];exact hQ _ _ _ h4 (.inl ⟨hfit,by rw[h1,if_pos rfl,e1],by rw[h2,e2],rfl⟩) x
 |false=>
  refine zc ?_;exact hQ _ _ _ h4 (.inl ⟨hfit,by rw[h1,e1];simp,by rw[h2,e2],rfl⟩) x
theorem IF{h:af}(hlow:h.low<=h.next){n d m e:Int}(hn:i64 n)(hd:i64 d)(hm:i64 m)(he:i64 e){Q:Value->af->Prop}
  (hQ:∀a b r,zP (· * ·) n d m e a b r->∀h',Ext h h'->Q (.tuple #[.agg #[.int .i64 a,.int .i64 b],.int .i64 r]) h'):call 36 [.agg #[.int .i64 n,.int .i64 d],.agg #[.int .i64 m,.int .i64 e]] h Q:=by
 refine hA.bodyR Try.func36 r36_ok (hA.alike _ _ _ rfl) hlow (zc ?_);refine kK hA hlow hn hd hm he (fun r1 h1 k1 x1=>⟨_,rfl,?_⟩);refine zc ?_;refine br (r1≠0) (by rw[bL hA]) (fun c1=>?_) (fun c1=>?_)<;>refine zc ?_
 ·refine kK hA (x1.lowOK hlow) hn hd hm he (fun r3 h3 k3 x3=>⟨_,rfl,?_⟩)
  refine zc ?_;rcases k1 with ⟨q,_⟩|⟨rfl,q⟩
  ·exact absurd q c1
  ·rcases k3 with ⟨_,q3⟩|⟨rfl,_⟩
   ·exact absurd q3 q
   ·exact hQ _ _ _ (.inl ⟨q,rfl,rfl,rfl⟩) _ (x1.trans x3)
 rcases k1 with ⟨_,⟨p,hp⟩,q,hq⟩|⟨q,_⟩
 rotate_left
 ·omega
 have hl1:=x1.lowOK hlow;have in64:=hp.i64n;have im64:=hq.i64n;have ie64:=hq.i64d;have id64:=hp.i64d;have pd:=hp.den;have qd:=hq.den;have ud:u64 d:=by unfold u64;unfold i64 at id64;omega
 have ue:u64 e:=by unfold u64;unfold i64 at ie64;omega
 obtain⟨h9,hh9⟩:∃z,z=bump h1 16:=⟨_,rfl⟩;have e9:Ext h h9:=by rw[hh9];exact x1.trans (aq hA _ _)
 have l9:=e9.lowOK hlow;rw[<-hh9];refine zc ?_;rw[ke hA ud.1 ud.2,ke hA ue.1 ue.2];refine lV hA (aw hA h9) in64 (fun s1 hs1=>⟨_,rfl,?_⟩);refine zc ?_;rw[bJ hA l9];have z1:u64 s1:=by unfold u64;unfold i64 at in64;omega
 refine lu hA (aw hA h9) z1 ue (fun g hg ha ea=>⟨_,rfl,?_⟩);refine zc ?_;obtain⟨hX,hhX⟩:∃z,z=lowered h9 ha:=⟨_,rfl⟩;have eX:Ext h hX:=by rw[hhX];exact bP hA hlow e9 ea
 have lX:=eX.lowOK hlow;rw[<-hhX];refine lV hA (aw hA hX) im64 (fun s2 hs2=>⟨_,rfl,?_⟩);refine zc ?_;rw[bJ hA lX];have z2:u64 s2:=by unfold u64;unfold i64 at im64;omega
 refine lu hA (aw hA hX) z2 ud (fun k hk hb eb=>⟨_,rfl,?_⟩);refine zc ?_;obtain⟨hY,hhY⟩:∃z,z=lowered hX hb:=⟨_,rfl⟩;have eY:Ext h hY:=by rw[hhY];exact bP hA hlow eX eb
 have lY:=eY.lowOK hlow;rw[<-hhY];refine zc ?_;obtain⟨h10,hh10⟩:∃z,z=bump hY 34:=⟨_,rfl⟩;have e10:Ext h h10:=by rw[hh10];exact eY.trans (aq hA _ _)
 have l10:=e10.lowOK hlow;rw[<-hh10];obtain⟨mi,hmi⟩:∃z,z=bnot (bsame (cmp .lss n 0) (cmp .lss m 0)):=⟨_,rfl⟩;have hs2':=uM hA n m;rw[<-hmi]at hs2' ⊢;obtain⟨k1,k2,k3,k4,k5,k6⟩:=yE hp hq (g:=g) (h:=k) (by rw[hg,hs1]) (by rw[hk,hs2]) hs2';rw[<-hs1,<-hs2]at k1;have cd:conv .u64 d=d:=ke hA ud.1 ud.2;have ce:conv .u64 e=e:=ke hA ue.1 ue.2;rw[cd];have w1:arith .quo .u64 s1 g=s1 / g:=gX hA z1.1 z1.2 k3;have w2:arith .quo .u64 s2 k=s2 / k:=gX hA z2.1 z2.2 k5;have w3:arith .quo .u64 d k=d / k:=gX hA ud.1 ud.2 k5;have w4:arith .quo .u64 e g=e / g:=gX hA ue.1 ue.2 k3;have v1:=cG z1 k3;have v2:=cG z2 k5;have v3:=cG ud k5;have v4:=cG ue k3;generalize s1 / g=q1 at *;generalize s2 / k=q2 at *;generalize d / k=q3 at *;generalize e / g=q4 at *;refine⟨cY hA (by omega),?_⟩;refine zc ?_;rw[ce,w3];refine⟨cY hA (by omega),?_⟩;refine zc ?_;rw[w4];refine lV hA (aw hA h10) in64 (fun s3 hs3=>⟨_,rfl,?_⟩);rw[<-hs1]at hs3;subst hs3;refine zc ?_;rw[bJ hA l10];refine⟨cY hA (by omega),?_⟩;refine zc ?_;rw[w1];refine lV hA (aw hA h10) im64 (fun s4 hs4=>⟨_,rfl,?_⟩);rw[<-hs2]at hs4;subst hs4;refine zc ?_;rw[bJ hA l10];refine⟨cY hA (by omega),?_⟩;refine zc ?_;rw[w2];refine fF hA (aw hA h10) v1 v2 (fun a0 a1 a2 a3 hz dz ez=>⟨_,_,_,_,rfl,?_⟩);refine zc ?_;obtain⟨hZ,hhZ⟩:∃z,z=lowered h10 hz:=⟨_,rfl⟩;have eZ:Ext h hZ:=by rw[hhZ];exact bP hA hlow e10 ez
 have lZ:=eZ.lowOK hlow;rw[<-hhZ];refine fF hA (aw hA hZ) v3 v4 (fun b0 b1 b2 b3 hw dw ew=>⟨_,_,_,_,rfl,?_⟩);refine zc ?_;obtain⟨hW,hhW⟩:∃z,z=lowered hZ hw:=⟨_,rfl⟩;have eW:Ext h hW:=by rw[hhW];exact bP hA hlow eZ ew
 have lW:=eW.lowOK hlow;rw[<-hhW];refine nW hA (aw hA hW) dz dw k1 k2 (fun n' d' e' hv ho xv=>⟨_,_,_,rfl,?_⟩);refine zq ?_;exact hQ n' d' e' (.inr ⟨p,q,hp,hq,ho⟩) _ (bP hA hlow eW xv)
theorem om{h0 h:af}{ba bb:Nat}{A B:List Int}(t:vQ h0 h ba bb A B){i c w:Int}(i0:0<=i)(i1:i<4){K:List Value}{Q:Exit->SS->Prop}
  (hw:w=c+(dL A i+dL B i)) (c0:0<=c) (r0:0<=dL A i+dL B i) (w1:w<18446744073709551616)
  (hQ:∀h',vQ h0 h' ba bb (A.set i.toNat (w % 4294967296)) B->head 41 3 1 ⟨[(2,.pointer (some ⟨ba,0,none⟩)),(3,.pointer (some ⟨bb,0,none⟩)),(4,.pointer (some ⟨0,0,some 0⟩)),(5,.int .u64 (w / 4294967296)),(6,.int .i64 (i+1))],1,[(0,K)],h'⟩ Q) :
  head 41 3 1 ⟨[(2,.pointer (some ⟨ba,0,none⟩)),(3,.pointer (some ⟨bb,0,none⟩)),(4,.pointer (some ⟨0,0,some 0⟩)),(5,.int .u64 c),(6,.int .i64 i)],1,[(0,K)],h⟩ Q:=by
 refine hA.roundR Try.func41 r41_ok (zc ?_);refine br (i<4) (by rw[au hA]) (fun _=>?_) (fun q=>absurd i1 q)<;>refine zc ?_;obtain⟨h9,hh9⟩:∃z,z=bump h 12:=⟨_,rfl⟩;have e9:Ext h h9:=by rw[hh9];exact aq hA _ _
 have t9:=t.more e9;rw[<-hh9];have r1:=gZ hA t9.oa t9.len.1 i0 i1;have r2:=gZ hA t9.ob t9.len.2 i0 i1;have pj:place (addN 0 0) i 1=i.toNat:=by rw[dV hA,cB hA];omega
 generalize dL A i=x at *;generalize dL B i=y at *;have hw3:0<=w:=by omega
 have ea:arith .add .u64 x y=x+y:=ku hA r0 (by omega);have eb:arith .add .u64 c (x+y)=w:=by rw[ku hA (by omega) (by omega),hw]
 have em:=lF hA hw3 w1;obtain⟨h',p1,p2⟩:=t9.put (i:=i.toNat) (by omega) (w % 4294967296);have p3:wr h9 ba (place (addN 0 0) i 1) [.int .u64 (w % 4294967296)] h':=by rw[pj];exact jd hA p1
 rw[<-em,<-eb,<-ea]at p3;refine zq ?_;rw[ea,eb,mS hA hw3,aB hA (by omega) (by omega)];exact hQ h' p2
theorem HA{h:af}(hlow:h.low<=h.next){a0 a1 a2 a3 b0 b1 b2 b3 M N:Int}(hm:mP M a0 a1 a2 a3)(hn:mP N b0 b1 b2 b3)(hs:M+N<340282366920938463463374607431768211456){Q:Value->af->Prop}
  (hQ:∀d0 d1 d2 d3 h',mP (M+N) d0 d1 d2 d3->Ext h h'->Q (.agg #[.int .u64 d0,.int .u64 d1,.int .u64 d2,.int .u64 d3]) h'):call 41 [.agg #[.int .u64 a0,.int .u64 a1,.int .u64 a2,.int .u64 a3],.agg #[.int .u64 b0,.int .u64 b1,.int .u64 b2,.int .u64 b3]] h Q:=by
 obtain⟨m1,m2,m3,m4,m5⟩:=hm;obtain⟨k1,k2,k3,k4,k5⟩:=hn;refine hA.bodyR Try.func41 r41_ok (hA.alike _ _ _ rfl) hlow (zc ?_);rw[bV hA,cM hA,bV hA,cM hA];have e1:Ext h (h.push 4 [Value.int .u64 a0,Value.int .u64 a1,Value.int .u64 a2,Value.int .u64 a3]):=.push _ _ _;have o1:bG (h.push 4 [Value.int .u64 a0,Value.int .u64 a1,Value.int .u64 a2,Value.int .u64 a3]) h.next 4 [Value.int .u64 a0,Value.int .u64 a1,Value.int .u64 a2,Value.int .u64 a3]:=bG.push _ _ _;have n1:(h.push 4 [Value.int .u64 a0,Value.int .u64 a1,Value.int .u64 a2,Value.int .u64 a3]).next=h.next+1:=rfl;generalize h.push 4 [Value.int .u64 a0,Value.int .u64 a1,Value.int .u64 a2,Value.int .u64 a3]=h1 at *;have e2:Ext h1 (h1.push 4 [Value.int .u64 b0,Value.int .u64 b1,Value.int .u64 b2,Value.int .u64 b3]):=.push _ _ _;have o2:bG (h1.push 4 [Value.int .u64 b0,Value.int .u64 b1,Value.int .u64 b2,Value.int .u64 b3]) h1.next 4 [Value.int .u64 b0,Value.int .u64 b1,Value.int .u64 b2,Value.int .u64 b3]:=bG.push _ _ _;have n2:(h1.push 4 [Value.int .u64 b0,Value.int .u64 b1,Value.int .u64 b2,Value.int .u64 b3]).next=h1.next+1:=rfl;generalize h1.push 4 [Value.int .u64 b0,Value.int .u64 b1,Value.int .u64 b2,Value.int .u64 b3]=h2 at *;obtain⟨ba,hba⟩:∃z,z=h.next:=⟨_,rfl⟩;obtain⟨bb,hbb⟩:∃z,z=h1.next:=⟨_,rfl⟩;rw[<-hba]at o1;rw[<-hbb]at o2;rw[<-hba,<-hbb];have t0:vQ h h2 ba bb [a0,a1,a2,a3] [b0,b1,b2,b3]:=⟨e1.trans e2,o1.ext e2 (by omega),o2,⟨by omega,by omega⟩,by omega,by omega,rfl,rfl⟩;obtain⟨w0,hw0⟩:∃z,z=0+(a0+b0):=⟨_,rfl⟩;obtain⟨w1,hw1⟩:∃z,z=w0 / 4294967296+(a1+b1):=⟨_,rfl⟩;obtain⟨w2,hw2⟩:∃z,z=w1 / 4294967296+(a2+b2):=⟨_,rfl⟩;obtain⟨w3,hw3⟩:∃z,z=w2 / 4294967296+(a3+b3):=⟨_,rfl⟩;refine om hA t0 (i:=0) (by omega) (by omega) hw0 (by omega) (by show 0<=a0+b0;omega) (by omega) (fun h3 t3=>?_);refine om hA t3 (i:=0+1) (by omega) (by omega) hw1 (by omega) (by show 0<=a1+b1;omega) (by omega) (fun h4 t4=>?_);refine om hA t4 (i:=0+1+1) (by omega) (by omega) hw2 (by omega) (by show 0<=a2+b2;omega) (by omega) (fun h5 t5=>?_);refine om hA t5 (i:=0+1+1+1) (by omega) (by omega) hw3 (by omega) (by show 0<=a3+b3;omega) (by omega) (fun h6 t6=>?_);have hd:mP (M+N) (w0 % 4294967296) (w1 % 4294967296) (w2 % 4294967296) (w3 % 4294967296):=⟨by omega,by omega,by omega,by omega,by omega⟩;obtain⟨a,ha⟩:∃z,z=w0 % 4294967296:=⟨_,rfl⟩;obtain⟨b,hb⟩:∃z,z=w1 % 4294967296:=⟨_,rfl⟩;obtain⟨c,hc⟩:∃z,z=w2 % 4294967296:=⟨_,rfl⟩;obtain⟨d,hd'⟩:∃z,z=w3 % 4294967296:=⟨_,rfl⟩;rw[<-ha,<-hb,<-hc,<-hd']at hd t6;obtain⟨cc,hcc⟩:∃z,z=w3 / 4294967296:=⟨_,rfl⟩;rw[<-hcc];refine hA.roundR Try.func41 r41_ok (zc ?_);refine br (False) (by rw[au hA];rfl) (fun q=>q.elim) (fun _=>?_)<;>refine zc ?_;have rd4:h6.readG ⟨ba,0,none⟩ 4=some [.int .u64 a,.int .u64 b,.int .u64 c,.int .u64 d]:=t6.oa.readG (by simp);refine⟨a,b,c,d,gP hA rd4,?_⟩;refine zc ?_;exact hQ a b c d h6 hd t6.ext
theorem nT{h0 h:af}{ba bb:Nat}{A B:List Int}(t:vQ h0 h ba bb A B){i c w:Int}(i0:0<=i)(i1:i<4){K:List Value}{Q:Exit->SS->Prop}
  (hw:w=dL A i+4294967296-dL B i-c) (c0:0<=c/\c<=1) (r0:0<=dL A i/\dL A i<4294967296) (r1:0<=dL B i/\dL B i<4294967296)
  (hQ:∀h',vQ h0 h' ba bb (A.set i.toNat (w % 4294967296)) B->head 43 3 1 ⟨[(2,.pointer (some ⟨ba,0,none⟩)),(3,.pointer (some ⟨bb,0,none⟩)),(4,.pointer (some ⟨0,0,some 0⟩)),(5,.int .u64 (1-w / 4294967296)),(6,.int .i64 (i+1))],1,[(0,K)],h'⟩ Q) :
  head 43 3 1 ⟨[(2,.pointer (some ⟨ba,0,none⟩)),(3,.pointer (some ⟨bb,0,none⟩)),(4,.pointer (some ⟨0,0,some 0⟩)),(5,.int .u64 c),(6,.int .i64 i)],1,[(0,K)],h⟩ Q:=by
 refine hA.roundR Try.func43 r43_ok (zc ?_);refine br (i<4) (by rw[au hA]) (fun _=>?_) (fun q=>absurd i1 q)<;>refine zc ?_;obtain⟨h9,hh9⟩:∃z,z=bump h 14:=⟨_,rfl⟩;have e9:Ext h h9:=by rw[hh9];exact aq hA _ _
 have t9:=t.more e9;rw[<-hh9];have g1:=gZ hA t9.oa t9.len.1 i0 i1;have g2:=gZ hA t9.ob t9.len.2 i0 i1;have pj:place (addN 0 0) i 1=i.toNat:=by rw[dV hA,cB hA];omega
 generalize dL A i=x at *;generalize dL B i=y at *;have ea:arith .add .u64 x 4294967295=x+4294967295:=ku hA (by omega) (by omega);have eb:arith .add .u64 (x+4294967295) 1=x+4294967296:=by rw[ku hA (by omega) (by omega)];omega
 have ec:arith .sub .u64 (x+4294967296) y=x+4294967296-y:=sh hA (by omega) (by omega);have ed:arith .sub .u64 (x+4294967296-y) c=w:=by rw[sh hA (by omega) (by omega),hw]
 have hw3:0<=w:=by omega
 have em:=lF hA hw3 (by omega);obtain⟨h',p1,p2⟩:=t9.put (i:=i.toNat) (by omega) (w % 4294967296);have p3:wr h9 ba (place (addN 0 0) i 1) [.int .u64 (w % 4294967296)] h':=by rw[pj];exact jd hA p1
 rw[<-em,<-ed,<-ec,<-eb,<-ea]at p3;refine zq ?_;rw[ea,eb,ec,ed,mS hA hw3,aB hA (by omega) (by omega),sh hA (by omega) (by omega)];exact hQ h' p2
theorem C3{h:af}(hlow:h.low<=h.next){a0 a1 a2 a3 b0 b1 b2 b3 M N:Int}(hm:mP M a0 a1 a2 a3)(hn:mP N b0 b1 b2 b3)(hs:N<=M){Q:Value->af->Prop}
  (hQ:∀d0 d1 d2 d3 h',mP (M-N) d0 d1 d2 d3->Ext h h'->Q (.agg #[.int .u64 d0,.int .u64 d1,.int .u64 d2,.int .u64 d3]) h'):call 43 [.agg #[.int .u64 a0,.int .u64 a1,.int .u64 a2,.int .u64 a3],.agg #[.int .u64 b0,.int .u64 b1,.int .u64 b2,.int .u64 b3]] h Q:=by
 obtain⟨m1,m2,m3,m4,m5⟩:=hm;obtain⟨k1,k2,k3,k4,k5⟩:=hn;refine hA.bodyR Try.func43 r43_ok (hA.alike _ _ _ rfl) hlow (zc ?_);rw[bV hA,cM hA,bV hA,cM hA];have e1:Ext h (h.push 4 [Value.int .u64 a0,Value.int .u64 a1,Value.int .u64 a2,Value.int .u64 a3]):=.push _ _ _;have o1:bG (h.push 4 [Value.int .u64 a0,Value.int .u64 a1,Value.int .u64 a2,Value.int .u64 a3]) h.next 4 [Value.int .u64 a0,Value.int .u64 a1,Value.int .u64 a2,Value.int .u64 a3]:=bG.push _ _ _;have n1:(h.push 4 [Value.int .u64 a0,Value.int .u64 a1,Value.int .u64 a2,Value.int .u64 a3]).next=h.next+1:=rfl;generalize h.push 4 [Value.int .u64 a0,Value.int .u64 a1,Value.int .u64 a2,Value.int .u64 a3]=h1 at *;have e2:Ext h1 (h1.push 4 [Value.int .u64 b0,Value.int .u64 b1,Value.int .u64 b2,Value.int .u64 b3]):=.push _ _ _;have o2:bG (h1.push 4 [Value.int .u64 b0,Value.int .u64 b1,Value.int .u64 b2,Value.int .u64 b3]) h1.next 4 [Value.int .u64 b0,Value.int .u64 b1,Value.int .u64 b2,Value.int .u64 b3]:=bG.push _ _ _;have n2:(h1.push 4 [Value.int .u64 b0,Value.int .u64 b1,Value.int .u64 b2,Value.int .u64 b3]).next=h1.next+1:=rfl;generalize h1.push 4 [Value.int .u64 b0,Value.int .u64 b1,Value.int .u64 b2,Value.int .u64 b3]=h2 at *;obtain⟨ba,hba⟩:∃z,z=h.next:=⟨_,rfl⟩;obtain⟨bb,hbb⟩:∃z,z=h1.next:=⟨_,rfl⟩;rw[<-hba]at o1;rw[<-hbb]at o2;rw[<-hba,<-hbb];have t0:vQ h h2 ba bb [a0,a1,a2,a3] [b0,b1,b2,b3]:=⟨e1.trans e2,o1.ext e2 (by omega),o2,⟨by omega,by omega⟩,by omega,by omega,rfl,rfl⟩;obtain⟨w0,hw0⟩:∃z,z=a0+4294967296-b0-0:=⟨_,rfl⟩;obtain⟨w1,hw1⟩:∃z,z=a1+4294967296-b1-(1-w0 / 4294967296):=⟨_,rfl⟩;obtain⟨w2,hw2⟩:∃z,z=a2+4294967296-b2-(1-w1 / 4294967296):=⟨_,rfl⟩;obtain⟨w3,hw3⟩:∃z,z=a3+4294967296-b3-(1-w2 / 4294967296):=⟨_,rfl⟩;refine nT hA t0 (i:=0) (by omega) (by omega) hw0 (by omega) m2 k2 (fun h3 t3=>?_);refine nT hA t3 (i:=0+1) (by omega) (by omega) hw1 (by omega) m3 k3 (fun h4 t4=>?_);refine nT hA t4 (i:=0+1+1) (by omega) (by omega) hw2 (by omega) m4 k4 (fun h5 t5=>?_);refine nT hA t5 (i:=0+1+1+1) (by omega) (by omega) hw3 (by omega) m5 k5 (fun h6 t6=>?_);have hd:mP (M-N) (w0 % 4294967296) (w1 % 4294967296) (w2 % 4294967296) (w3 % 4294967296):=⟨by omega,by omega,by omega,by omega,by omega⟩;obtain⟨a,ha⟩:∃z,z=w0 % 4294967296:=⟨_,rfl⟩;obtain⟨b,hb⟩:∃z,z=w1 % 4294967296:=⟨_,rfl⟩;obtain⟨c,hc⟩:∃z,z=w2 % 4294967296:=⟨_,rfl⟩;obtain⟨d,hd'⟩:∃z,z=w3 % 4294967296:=⟨_,rfl⟩;rw[<-ha,<-hb,<-hc,<-hd']at hd t6;obtain⟨cc,hcc⟩:∃z,z=1-w3 / 4294967296:=⟨_,rfl⟩;rw[<-hcc];refine hA.roundR Try.func43 r43_ok (zc ?_);refine br (False) (by rw[au hA];rfl) (fun q=>q.elim) (fun _=>?_)<;>refine zc ?_;have rd4:h6.readG ⟨ba,0,none⟩ 4=some [.int .u64 a,.int .u64 b,.int .u64 c,.int .u64 d]:=t6.oa.readG (by simp);refine⟨a,b,c,d,gP hA rd4,?_⟩;refine zc ?_;exact hQ a b c d h6 hd t6.ext
theorem DS{h0 h:af}{ba bb:Nat}{O A:List Int}(t:vQ h0 h ba bb O A){i r n:Int}{b:Nat}(i0:0<=i)(i1:i<4)(hb:b<32)(n1:n<4611686018427387904)(r0:0<=r)(r1:r<n){K:List Value}{Q:Exit->SS->Prop}{r' v:Int}
  (hr':r'=r*2+dL A i / 2 ^ b % 2) (T0:0<=dL A i) (T1:dL A i<4294967296) (hv:dL O i=v*2 ^ (b+1)) (v0:0<=v) (hv1:v*2 ^ (b+1)+2 ^ b<18446744073709551616)
  (h1:r'<n->∀h',vQ h0 h' ba bb O A->head 44 6 1 ⟨[(1,.int .u64 n),(2,.pointer (some ⟨bb,0,none⟩)),(4,.pointer (some ⟨0,0,some 0⟩)),(6,.pointer (some ⟨ba,0,none⟩)),(7,.int .u64 r'),(8,.int .i64 i),(9,.int .i64 ((b:Int)-1))],1,[(0,K)],h'⟩ Q)
  (h2:n<=r'->∀h',vQ h0 h' ba bb (O.set i.toNat (v*2 ^ (b+1)+2 ^ b)) A->head 44 6 1 ⟨[(1,.int .u64 n),(2,.pointer (some ⟨bb,0,none⟩)),(4,.pointer (some ⟨0,0,some 0⟩)),(6,.pointer (some ⟨ba,0,none⟩)),(7,.int .u64 (r'-n)),(8,.int .i64 i),(9,.int .i64 ((b:Int)-1))],1,[(0,K)],h'⟩ Q) :
  head 44 6 1 ⟨[(1,.int .u64 n),(2,.pointer (some ⟨bb,0,none⟩)),(4,.pointer (some ⟨0,0,some 0⟩)),(6,.pointer (some ⟨ba,0,none⟩)),(7,.int .u64 r),(8,.int .i64 i),(9,.int .i64 (b:Int))],1,[(0,K)],h⟩ Q:=by
 obtain⟨bi,hbi⟩:∃z:Int,z=(b:Int):=⟨_,rfl⟩;rw[<-hbi]at h1 h2 ⊢;obtain⟨p,hp⟩:∃z:Int,z=2 ^ b:=⟨_,rfl⟩;have hp0:0<p:=by rw[hp];exact Int.pow_pos (by omega)
 have hp1:(2:Int) ^ (b+1)=2*p:=by rw[hp,Int.pow_succ,Int.mul_comm]
 have es:arith .shl .u64 r 1=r*2 ^ 1:=by rw[A7 hA r 1 (by omega) (by rfl)];exact Int.emod_eq_of_lt (by omega) (by omega)
 have eh:arith .shr .u64 (dL A i) bi=dL A i / p:=by rw[th hA T0 b (by omega) hbi,hp]
 have ep:arith .shl .u64 1 bi=p:=by
  rw[A7 hA 1 b (by omega) hbi,Int.one_mul,<-hp];exact Int.emod_eq_of_lt (by omega) (by
   have:=Int.mul_nonneg v0 (show(0:Int)<=2 ^ (b+1) by omega);omega)
 have eo:arith .or .u64 (dL O i) p=v*2 ^ (b+1)+p:=by
  rw[hv];exact K7 hA (b+1) v0 (by omega) (by omega) (by rw[hp];exact hv1)
 rw[<-hp]at h2 hr';have pj:place (addN 0 0) i 1=i.toNat:=by rw[dV hA,cB hA];omega
 have g1:=gZ hA t.ob t.len.2 i0 i1;obtain⟨x,hx⟩:∃z,z=dL A i:=⟨_,rfl⟩;rw[<-hx]at g1 eh hr' T0 T1;have hd0:0<=x / p:=Int.ediv_nonneg T0 (by omega);have hd1:x / p<=x:=Int.ediv_le_self _ T0;have ea:arith .and .u64 (x / p) 1=x / p % 2:=B7 hA hd0 (by omega) 1 (by omega) (by rfl);have er:arith .or .u64 (r*2 ^ 1) (x / p % 2)=r':=by rw[K7 hA 1 r0 (by omega) (by omega) (by omega),hr'];omega
 refine hA.roundR Try.func44 r44_ok (zc ?_);refine br (0<=bi) (by rw[bE hA]) (fun _=>?_) (fun q=>absurd (show 0<=bi by omega) q)<;>refine zc ?_;refine zq ?_;rw[eh,ea,es,er];have sb:arith .sub .i64 bi 1=bi-1:=bD hA (by omega) (by omega);refine br (n<=r') (by rw[bE hA]) (fun c=>?_) (fun c=>?_)<;>refine zc ?_
 rotate_left
 ·rw[sb]
  exact h1 (by omega) _ t
 obtain⟨h9,hh9⟩:∃z,z=bump h 10:=⟨_,rfl⟩;have e9:Ext h h9:=by rw[hh9];exact aq hA _ _
 have t9:=t.more e9;rw[<-hh9];have g2:=gZ hA t9.oa t9.len.1 i0 i1;obtain⟨h',p1,p2⟩:=t9.put (i:=i.toNat) (by omega) (v*2 ^ (b+1)+p);have p3:wr h9 ba (place (addN 0 0) i 1) [.int .u64 (v*2 ^ (b+1)+p)] h':=by rw[pj];exact jd hA p1
 rw[<-eo,<-ep]at p3;generalize dL O i=o at *;refine zq ?_;rw[sb,sh hA (by omega) (by omega)];exact h2 c _ p2
omit hA in
theorem GO{X r0 T n r qd p:Int}{m:Nat}(hX:X=r0*4294967296+T)(T0:0<=T)(hm:m<32)(hp:p=2 ^ m)(hi:X / 2 ^ (m+1)=qd*n+r){r':Int}(hr':r'=r*2+T / p % 2):X / 2 ^ m=2*qd*n+r':=by
 have hp0:0<p:=by rw[hp];exact Int.pow_pos (by omega)
 have e1:X / 2 ^ (m+1)=X / p / 2:=by rw[Int.pow_succ,<-hp,Int.ediv_ediv_of_nonneg (Int.le_of_lt hp0)]
 obtain⟨k,hk⟩:∃k:Int,(4294967296:Int)=p*(2*k):=⟨2 ^ (31-m),by
  have:(4294967296:Int)=2 ^ (m+(1+(31-m))):=by rw[show m+(1+(31-m))=32 by omega];rfl
  rw[this,Int.pow_add,Int.pow_add,<-hp];rfl⟩
 have e2:X / p=r0*k*2+T / p:=by
  rw[hX,hk,show r0*(p*(2*k))+T=T+p*(r0*k*2) by grind,Int.add_mul_ediv_left _ _ (by omega)];omega
 rw[<-hp];rw[e1]at hi;have e3:X / p=2*(X / p / 2)+T / p % 2:=by
  have:X / p % 2=T / p % 2:=by rw[e2];omega
  omega
 rw[e3,hi,hr'];grind
theorem Ev{h0:af}{ba bb:Nat}{O A:List Int}{i n r0 X:Int}(i0:0<=i)(i1:i<4)(n0:0<n)(n1:n<4611686018427387904)(r00:0<=r0)(r01:r0<n)(T0:0<=dL A i)(T1:dL A i<4294967296)(hX:X=r0*4294967296+dL A i){K:List Value}{Q:Exit->SS->Prop}
  (hQ:∀h' qd r,vQ h0 h' ba bb (O.set i.toNat qd) A->X=qd*n+r->0<=r->r<n->0<=qd->head 44 6 1 ⟨[(1,.int .u64 n),(2,.pointer (some ⟨bb,0,none⟩)),(4,.pointer (some ⟨0,0,some 0⟩)),(6,.pointer (some ⟨ba,0,none⟩)),(7,.int .u64 r),(8,.int .i64 i),(9,.int .i64 (-1))],1,[(0,K)],h'⟩ Q) :
  ∀(m:Nat) (h:af) (r qd z:Int),z=(m:Int)-1->m<=32->vQ h0 h ba bb (O.set i.toNat (qd*2 ^ m)) A->X / 2 ^ m=qd*n+r->0<=r->r<n->0<=qd->
  head 44 6 1 ⟨[(1,.int .u64 n),(2,.pointer (some ⟨bb,0,none⟩)),(4,.pointer (some ⟨0,0,some 0⟩)),(6,.pointer (some ⟨ba,0,none⟩)),(7,.int .u64 r),(8,.int .i64 i),(9,.int .i64 z)],1,[(0,K)],h⟩ Q:=by
 intro m
 induction m with
 |zero=>
  intro h r qd z hz _ t hi q1 q2 q3;obtain rfl:z=-1:=by omega
  rw[Int.pow_zero,Int.mul_one]at t;rw[Int.pow_zero,Int.ediv_one]at hi;exact hQ h qd r t hi q1 q2 q3
 |succ m ih=>
  intro h r qd z hz hm t hi q1 q2 q3;obtain rfl:z=(m:Int):=by omega
  have hlen:O.length=4:=by simpa using t.len.1
  obtain⟨p,hp⟩:∃z:Int,z=2 ^ m:=⟨_,rfl⟩;have hp0:0<p:=by rw[hp];exact Int.pow_pos (by omega)
  have hp1:(2:Int) ^ (m+1)=2*p:=by rw[hp,Int.pow_succ,Int.mul_comm]
  have hXn:X<n*4294967296:=by
   have:r0*4294967296+4294967296<=n*4294967296:=by omega
   omega
  have hp2:p<=2147483648:=by
   have:(2:Int) ^ m<=2 ^ 31:=by
    have:=Nat.pow_le_pow_right (n:=2) (by omega) (show m<=31 by omega)
    exact_mod_cast this
   rw[hp];exact this
  have hb:qd*2 ^ (m+1)<4294967296:=by
   have k1:2 ^ (m+1)*(X / 2 ^ (m+1))<=X:=Int.mul_ediv_self_le (by omega);rw[hi]at k1;have k2:n*(qd*2 ^ (m+1))<=X:=by
    have:0<=2 ^ (m+1)*r:=Int.mul_nonneg (by omega) q1;have e:(2:Int) ^ (m+1)*(qd*n+r)=n*(qd*2 ^ (m+1))+2 ^ (m+1)*r:=by grind
    omega
   exact Int.lt_of_mul_lt_mul_left (a:=n) (by omega) (by omega)
  obtain⟨r',hr'⟩:∃z,z=r*2+dL A i / 2 ^ m % 2:=⟨_,rfl⟩;have e4:=GO (r':=r') hX T0 (by omega) hp hi (by rw[hp];exact hr');have hv:dL (O.set i.toNat (qd*2 ^ (m+1))) i=qd*2 ^ (m+1):=by rw[C7 O i0 i0 (by omega),if_pos rfl]
  refine DS hA t i0 i1 (by omega) n1 q1 q2 hr' T0 T1 hv q3 (by rw[<-hp];omega) (fun c h' t'=>?_) (fun c h' t'=>?_)
  ·refine ih h' r' (2*qd) _ rfl (by omega) ?_ e4 (by omega) c (by omega)
   rw[show 2*qd*2 ^ m=qd*2 ^ (m+1) by rw[hp1,<-hp];grind];exact t'
  ·refine ih h' (r'-n) (2*qd+1) _ rfl (by omega) ?_ (by rw[e4];grind) (by omega) (by omega) (by omega)
   rw[show(2*qd+1)*2 ^ m=qd*2 ^ (m+1)+2 ^ m by rw[hp1,<-hp];grind];rw[List.set_set]at t';exact t'
theorem mj{h0 h:af}{ba bb:Nat}{O A:List Int}{i n r0 X:Int}(i0:0<=i)(i1:i<4)(n0:0<n)(n1:n<4611686018427387904)(r00:0<=r0)(r01:r0<n)(T0:0<=dL A i)(T1:dL A i<4294967296)(hX:X=r0*4294967296+dL A i)(t:vQ h0 h ba bb O A)(hz:dL O i=0){K:List Value}{Q:Exit->SS->Prop}
  (hQ:∀h',vQ h0 h' ba bb (O.set i.toNat (X / n)) A->head 44 3 1 ⟨[(1,.int .u64 n),(2,.pointer (some ⟨bb,0,none⟩)),(4,.pointer (some ⟨0,0,some 0⟩)),(6,.pointer (some ⟨ba,0,none⟩)),(7,.int .u64 (X % n)),(8,.int .i64 (i-1))],1,[(0,K)],h'⟩ Q) :
  head 44 3 1 ⟨[(1,.int .u64 n),(2,.pointer (some ⟨bb,0,none⟩)),(4,.pointer (some ⟨0,0,some 0⟩)),(6,.pointer (some ⟨ba,0,none⟩)),(7,.int .u64 r0),(8,.int .i64 i)],1,[(0,K)],h⟩ Q:=by
 refine hA.roundR Try.func44 r44_ok (zc ?_);refine br (0<=i) (by rw[bE hA]) (fun _=>?_) (fun q=>absurd i0 q)<;>refine zc ?_;have hl:O.length=4:=t.len.1;refine Ev hA (h0:=h0) (O:=O) (A:=A) i0 i1 n0 n1 r00 r01 T0 T1 hX (fun h' qd r t' hx q1 q2 q3=>?_) 32 h r0 0 31 (by omega) (by omega) ?_ ?_ r00 r01 (by omega)
 rotate_left
 ·rw[Int.zero_mul]
  have:O.set i.toNat 0=O:=by
   refine DK (by simp) (fun j j0 j1=>?_);rw[C7 O i0 j0 (by omega)];split
   ·rename_i e;rw[e,hz]
   ·rfl
  rw[this];exact t
 ·rw[hX,Int.zero_mul,Int.zero_add]
  show(r0*4294967296+dL A i) / 4294967296=r0;omega
 have hq:X / n=qd:=by
  rw[hx,Int.add_comm,Int.add_mul_ediv_right _ _ (by omega),Int.ediv_eq_zero_of_lt q1 q2];omega
 have hr:X % n=r:=by
  rw[hx,Int.add_comm,Int.add_mul_emod_self_right];exact Int.emod_eq_of_lt q1 q2
 rw[hq,hr]at hQ;refine hA.roundR Try.func44 r44_ok (zc ?_);refine br (False) (by rw[bE hA];rfl) (fun q=>q.elim) (fun _=>?_)<;>refine zc ?_;rw[bD hA (by omega) (by omega)];exact hQ h' t'
theorem nZ{h:af}(hlow:h.low<=h.next){a0 a1 a2 a3 M n:Int}(hm:mP M a0 a1 a2 a3)(n0:0<n)(n1:n<4611686018427387904){Q:Value->af->Prop}
  (hQ:∀d0 d1 d2 d3 r h',mP (M / n) d0 d1 d2 d3->r=M % n->Ext h h'->Q (.tuple #[.agg #[.int .u64 d0,.int .u64 d1,.int .u64 d2,.int .u64 d3],.int .u64 r]) h'):call 44 [.agg #[.int .u64 a0,.int .u64 a1,.int .u64 a2,.int .u64 a3],.int .u64 n] h Q:=by
 obtain⟨m1,m2,m3,m4,m5⟩:=hm;refine hA.bodyR Try.func44 r44_ok (hA.alike _ _ _ rfl) hlow (zc ?_);rw[bV hA,cM hA,bV hA,cM hA];have e1:Ext h (h.push 4 [Value.int .u64 a0,Value.int .u64 a1,Value.int .u64 a2,Value.int .u64 a3]):=.push _ _ _;have o1:bG (h.push 4 [Value.int .u64 a0,Value.int .u64 a1,Value.int .u64 a2,Value.int .u64 a3]) h.next 4 [Value.int .u64 a0,Value.int .u64 a1,Value.int .u64 a2,Value.int .u64 a3]:=bG.push _ _ _;have n1':(h.push 4 [Value.int .u64 a0,Value.int .u64 a1,Value.int .u64 a2,Value.int .u64 a3]).next=h.next+1:=rfl;generalize h.push 4 [Value.int .u64 a0,Value.int .u64 a1,Value.int .u64 a2,Value.int .u64 a3]=h1 at *;have e2:Ext h1 (h1.push 4 [Value.int .u64 0,Value.int .u64 0,Value.int .u64 0,Value.int .u64 0]):=.push _ _ _;have o2:bG (h1.push 4 [Value.int .u64 0,Value.int .u64 0,Value.int .u64 0,Value.int .u64 0]) h1.next 4 [Value.int .u64 0,Value.int .u64 0,Value.int .u64 0,Value.int .u64 0]:=bG.push _ _ _;have n2':(h1.push 4 [Value.int .u64 0,Value.int .u64 0,Value.int .u64 0,Value.int .u64 0]).next=h1.next+1:=rfl;generalize h1.push 4 [Value.int .u64 0,Value.int .u64 0,Value.int .u64 0,Value.int .u64 0]=h2 at *;obtain⟨bb,hbb⟩:∃z,z=h.next:=⟨_,rfl⟩;obtain⟨ba,hba⟩:∃z,z=h1.next:=⟨_,rfl⟩;rw[<-hbb]at o1;rw[<-hba]at o2;rw[<-hba,<-hbb];obtain⟨h3,w1,p1,q1⟩:=o2.write (o:=0) (vs:=[.int .u64 0,.int .u64 0,.int .u64 0,.int .u64 0]) (by simp);refine⟨h3,jd hA w1,?_⟩;refine zc ?_;have m6:=q1.next;have t0:vQ h h3 ba bb [0,0,0,0] [a0,a1,a2,a3]:=⟨q1.ext (e1.trans e2) (by omega),p1,q1.own (o1.ext e2 (by omega)) (by omega),⟨by omega,by omega⟩,by omega,by omega,rfl,rfl⟩;obtain⟨x3,hx3⟩:∃z,z=0*4294967296+a3:=⟨_,rfl⟩;have b3:=Int.emod_nonneg x3 (show n≠0 by omega);have c3:=Int.emod_lt_of_pos x3 n0;obtain⟨x2,hx2⟩:∃z,z=x3 % n*4294967296+a2:=⟨_,rfl⟩;have b2:=Int.emod_nonneg x2 (show n≠0 by omega);have c2:=Int.emod_lt_of_pos x2 n0;obtain⟨x1,hx1⟩:∃z,z=x2 % n*4294967296+a1:=⟨_,rfl⟩;have b1:=Int.emod_nonneg x1 (show n≠0 by omega);have c1:=Int.emod_lt_of_pos x1 n0;obtain⟨x0,hx0⟩:∃z,z=x1 % n*4294967296+a0:=⟨_,rfl⟩;have b0:=Int.emod_nonneg x0 (show n≠0 by omega);have c0:=Int.emod_lt_of_pos x0 n0;have g3:=Int.mul_ediv_add_emod x3 n;have g2:=Int.mul_ediv_add_emod x2 n;have g1:=Int.mul_ediv_add_emod x1 n;have g0:=Int.mul_ediv_add_emod x0 n;have small:∀r x a:Int,0<=r->r<n->0<=a->a<4294967296->x=r*4294967296+a->0<=x / n/\x / n<4294967296:=by
  intro r x a r0 r1 a0 a1 hx;refine⟨Int.ediv_nonneg (by omega) (by omega),Int.ediv_lt_of_lt_mul n0 (by omega)⟩
 have s3:=small 0 x3 a3 (by omega) n0 m5.1 m5.2 hx3;have s2:=small _ x2 a2 b3 c3 m4.1 m4.2 hx2;have s1:=small _ x1 a1 b2 c2 m3.1 m3.2 hx1;have s0:=small _ x0 a0 b1 c1 m2.1 m2.2 hx0;refine mj hA (A:=[a0,a1,a2,a3]) (i:=3) (by omega) (by omega) n0 n1 (by omega) n0 m5.1 m5.2 hx3 t0 rfl (fun h4 t4=>?_);rw[show(3:Int)-1=2 from rfl];refine mj hA (A:=[a0,a1,a2,a3]) (i:=2) (by omega) (by omega) n0 n1 b3 c3 m4.1 m4.2 hx2 t4 rfl (fun h5 t5=>?_);rw[show(2:Int)-1=1 from rfl];refine mj hA (A:=[a0,a1,a2,a3]) (i:=1) (by omega) (by omega) n0 n1 b2 c2 m3.1 m3.2 hx1 t5 rfl (fun h6 t6=>?_);rw[show(1:Int)-1=0 from rfl];refine mj hA (A:=[a0,a1,a2,a3]) (i:=0) (by omega) (by omega) n0 n1 b1 c1 m2.1 m2.2 hx0 t6 rfl (fun h7 t7=>?_);have key:M=(x0 / n+4294967296*(x1 / n)+18446744073709551616*(x2 / n)+79228162514264337593543950336*(x3 / n))*n+x0 % n:=by
  rw[m1];grind
 obtain⟨a,ha⟩:∃z,z=x0 / n:=⟨_,rfl⟩;obtain⟨b,hb⟩:∃z,z=x1 / n:=⟨_,rfl⟩;obtain⟨c,hc⟩:∃z,z=x2 / n:=⟨_,rfl⟩;obtain⟨d,hd⟩:∃z,z=x3 / n:=⟨_,rfl⟩;obtain⟨r,hr⟩:∃z,z=x0 % n:=⟨_,rfl⟩;have t7':vQ h h7 ba bb [x0 / n,x1 / n,x2 / n,x3 / n] [a0,a1,a2,a3]:=t7;rw[<-ha,<-hb,<-hc,<-hd]at key t7';rw[<-ha]at s0;rw[<-hb]at s1;rw[<-hc]at s2;rw[<-hd]at s3;rw[<-hr]at key b0 c0 ⊢;have f1:M / n=a+4294967296*b+18446744073709551616*c+79228162514264337593543950336*d:=by
  rw[key,Int.add_comm,Int.add_mul_ediv_right _ _ (by omega),Int.ediv_eq_zero_of_lt b0 c0];omega
 have f2:r=M % n:=by
  rw[key,Int.add_comm,Int.add_mul_emod_self_right];exact(Int.emod_eq_of_lt b0 c0).symm
 refine hA.roundR Try.func44 r44_ok (zc ?_);refine br (False) (by rw[bE hA];rfl) (fun q=>q.elim) (fun _=>?_)<;>refine zc ?_;have rd4:h7.readG ⟨ba,0,none⟩ 4=some [.int .u64 a,.int .u64 b,.int .u64 c,.int .u64 d]:=t7'.oa.readG (by simp);refine⟨a,b,c,d,gP hA rd4,?_⟩;refine zc ?_;exact hQ a b c d r h7 ⟨f1,s0,s1,s2,s3⟩ f2 t7'.ext
theorem yj{h:af}(hlow:h.low<=h.next){n d m e:Int}(hn:i64 n)(hd:i64 d)(hm:i64 m)(he:i64 e){Q:Value->af->Prop}
  (hQ:∀a b r,zP (· + ·) n d m e a b r->∀h',Ext h h'->Q (.tuple #[.agg #[.int .i64 a,.int .i64 b],.int .i64 r]) h'):call 19 [.agg #[.int .i64 n,.int .i64 d],.agg #[.int .i64 m,.int .i64 e]] h Q:=by
 refine hA.bodyR Try.func19 r19_ok (hA.alike _ _ _ rfl) hlow (zc ?_);refine kK hA hlow hn hd hm he (fun r1 h1 k1 x1=>⟨_,rfl,?_⟩);refine zc ?_;refine br (r1≠0) (by rw[bL hA]) (fun c1=>?_) (fun c1=>?_)<;>refine zc ?_
 ·refine kK hA (x1.lowOK hlow) hn hd hm he (fun r3 h3 k3 x3=>⟨_,rfl,?_⟩)
  refine zc ?_;rcases k1 with ⟨q,_⟩|⟨rfl,q⟩
  ·exact absurd q c1
  ·rcases k3 with ⟨_,q3⟩|⟨rfl,_⟩
   ·exact absurd q3 q
   ·exact hQ _ _ _ (.inl ⟨q,rfl,rfl,rfl⟩) _ (x1.trans x3)
 rcases k1 with ⟨_,⟨p,hp⟩,q,hq⟩|⟨q,_⟩
 rotate_left
 ·omega
 have hl1:=x1.lowOK hlow;have in64:=hp.i64n;have im64:=hq.i64n;have ie64:=hq.i64d;have id64:=hp.i64d;have pd:=hp.den;have qd:=hq.den;have pf:=hp.2.2;have qf:=hq.2.2;unfold fits at pf qf;rw[<-hp.1,<-hp.2.1]at pf;rw[<-hq.1,<-hq.2.1]at qf;have ud:u64 d:=by unfold u64;unfold i64 at id64;omega
 have ue:u64 e:=by unfold u64;unfold i64 at ie64;omega
 have cd:conv .u64 d=d:=ke hA ud.1 ud.2;have ce:conv .u64 e=e:=ke hA ue.1 ue.2;rw[cd,ce];refine lu hA hl1 ud ue (fun g hg h2 x2=>⟨_,rfl,?_⟩);refine zc ?_;have hgp:0<g:=by
  rw[hg];have:=Int.gcd_pos_of_ne_zero_left (a:=d) e (by omega);omega
 have hgle:g<=d:=by
  rw[hg];have:=Int.gcd_le_left (a:=d) e (by omega);omega
 have w1:arith .quo .u64 e g=e / g:=gX hA ue.1 ue.2 hgp;have w2:arith .quo .u64 d g=d / g:=gX hA ud.1 ud.2 hgp;have v1:=cG ue hgp;have v2:=cG ud hgp;generalize hE:e / g=E at *;generalize hD:d / g=D at *;obtain⟨h9,hh9⟩:∃z,z=bump h2 22:=⟨_,rfl⟩;have e9:Ext h h9:=by rw[hh9];exact(x1.trans x2).trans (aq hA _ _)
 have l9:=e9.lowOK hlow;rw[<-hh9];refine⟨cY hA (by omega),?_⟩;refine zc ?_;rw[ce,w1];refine⟨cY hA (by omega),?_⟩;refine zc ?_;rw[cd,w2];refine zc ?_;refine lV hA (aw hA h9) in64 (fun s1 hs1=>⟨_,rfl,?_⟩);refine zc ?_;rw[bJ hA l9];have z1:u64 s1:=by unfold u64;unfold i64 at in64;omega
 refine fF hA (aw hA h9) z1 v1 (fun a0 a1 a2 a3 hz dz ez=>⟨_,_,_,_,rfl,?_⟩);refine zc ?_;obtain⟨hX,hhX⟩:∃z,z=lowered h9 hz:=⟨_,rfl⟩;have eX:Ext h hX:=by rw[hhX];exact bP hA hlow e9 ez
 have lX:=eX.lowOK hlow;rw[<-hhX];refine lV hA (aw hA hX) im64 (fun s2 hs2=>⟨_,rfl,?_⟩);refine zc ?_;rw[bJ hA lX];have z2:u64 s2:=by unfold u64;unfold i64 at im64;omega
 refine fF hA (aw hA hX) z2 v2 (fun b0 b1 b2 b3 hw dw ew=>⟨_,_,_,_,rfl,?_⟩);refine zc ?_;obtain⟨hY,hhY⟩:∃z,z=lowered hX hw:=⟨_,rfl⟩;have eY:Ext h hY:=by rw[hhY];exact bP hA hlow eX ew
 have lY:=eY.lowOK hlow;rw[<-hhY];refine zq ?_;obtain⟨A,hAe⟩:∃z,z=s1*E:=⟨_,rfl⟩;obtain⟨B,hBe⟩:∃z,z=s2*D:=⟨_,rfl⟩;rw[<-hAe]at dz;rw[<-hBe]at dw;have fA:A=n.natAbs*(e / g):=by rw[hAe,hs1,<-hE]
 have fB:B=m.natAbs*(d / g):=by rw[hBe,hs2,<-hD]
 have E1:E<=e:=by rw[<-hE];exact Int.ediv_le_self g (by omega)
 have D1:D<=d:=by rw[<-hD];exact Int.ediv_le_self g (by omega)
 have A0:0<=A:=by rw[hAe];exact Int.mul_nonneg z1.1 v1.1
 have B0:0<=B:=by rw[hBe];exact Int.mul_nonneg z2.1 v2.1
 have A1:A<=1000000000000000000000000000000000000:=by
  rw[hAe];exact Int.mul_le_mul (show s1<=1000000000000000000 by omega) (show E<=1000000000000000000 by omega) v1.1 (by omega)
 have B1:B<=1000000000000000000000000000000000000:=by
  rw[hBe];exact Int.mul_le_mul (show s2<=1000000000000000000 by omega) (show D<=1000000000000000000 by omega) v2.1 (by omega)
 have dec:∀x:Int,(decide (x<0)=true↔x<0):=fun x=>by simp
 refine br (n<0↔m<0) (by rw[wY hA,au hA,au hA];by_cases y1:n<0<;>by_cases y2:m<0<;>simp[y1,y2]) (fun c=>?_) (fun c=>?_)<;>refine zc ?_
 ·refine HA hA lY dz dw (by omega) (fun t0 t1 t2 t3 hS dT eS=>⟨_,_,_,_,rfl,?_⟩)
  refine zc ?_;have eT:=eY.trans eS;obtain⟨mi,hmi⟩:∃z,z=cmp .lss n 0:=⟨_,rfl⟩;have key:∀k:Int,k=Int.gcd g ((A+B) % g)->(p+q).num=(if mi=true then -((A+B) / k)else(A+B) / k)/\((p+q).den:Int)=D*(e / k)/\0<k/\k<=g/\0<=A+B:=fun k hk=>by
   obtain⟨f1,f2,f3,f4,f5,_⟩:=kL hp hq hg fA fB (T:=A+B) (neg:=mi) (.inl ⟨c,rfl,by rw[hmi,au hA];exact dec n⟩) hk;exact⟨f1,by rw[f2,hD],f3,f4,f5⟩
  generalize A+B=T at *;have lT:=eT.lowOK hlow;refine nZ hA lT dT hgp (by omega) (fun _ _ _ _ r1 hO1 _ hr1 eO1=>⟨_,_,_,_,_,rfl,?_⟩);have eU1:=eT.trans eO1;have lU1:=eU1.lowOK hlow;refine zc ?_;have r10:0<=r1:=by rw[hr1];exact Int.emod_nonneg _ (by omega)
  have r11:r1<g:=by rw[hr1];exact Int.emod_lt_of_pos _ hgp
  refine lu hA lU1 (by unfold u64;omega) (by unfold u64;omega) (fun k hk hO2 eO2=>⟨_,rfl,?_⟩);have eU2:=eU1.trans eO2;have lU2:=eU2.lowOK hlow;refine zc ?_;obtain⟨f1,f2,f3,f4,f5⟩:=key k (by rw[hk,hr1,Int.gcd_comm]);refine nZ hA lU2 dT f3 (by omega) (fun y0 y1 y2 y3 _ hO3 dY _ eO3=>⟨_,_,_,_,_,rfl,?_⟩);have eU3:=eU2.trans eO3;have lU3:=eU3.lowOK hlow;refine zc ?_;obtain⟨rb,hb1,hb2⟩:=Ll y0 y1 y2 y3;rw[qy hA];refine⟨AY,rb,hb1,?_⟩;obtain⟨Y,hY⟩:∃z,z=T / k:=⟨_,rfl⟩;rw[<-hY]at f1 dY;have Y0:0<=Y:=by rw[hY];exact Int.ediv_nonneg f5 (by omega)
  cases rb with
  |true=>
   refine zc ?_;have y0:Y=0:=by
    obtain⟨g1,g2,g3,g4⟩:=hb2.1 rfl;obtain⟨g5,_⟩:=dY;omega
   have s0:p+q=0:=Rat.num_eq_zero.1 (by rw[f1,y0];split<;>rfl);exact hQ _ _ _ (.inr ⟨p,q,hp,hq,.inl ⟨by show fits (p+q);rw[s0];exact⟨by decide,by decide,by decide⟩,by show(0:Int)=(p+q).num;rw[s0];rfl,by show(1:Int)=(p+q).den;rw[s0];rfl,rfl⟩⟩) _ eU3
  |false=>
   refine zc ?_;obtain⟨h20,hh20⟩:∃z,z=bump hO3 20:=⟨_,rfl⟩;have e20:Ext h h20:=by rw[hh20];exact eU3.trans (aq hA _ _)
   have l20:=e20.lowOK hlow;rw[<-hh20];have w3:arith .quo .u64 e k=e / k:=gX hA ue.1 ue.2 f3;have w4:arith .quo .u64 d k=d / k:=gX hA ud.1 ud.2 f3;have v3:=cG ue f3;have v4:=cG ud f3;generalize e / k=E2 at *;generalize d / k=D2 at *;refine⟨cY hA (by omega),?_⟩;refine zc ?_;first|rw[cd,w2]|rw[ce,w1]
   refine⟨cY hA (by omega),?_⟩;refine zc ?_;first|rw[ce,w3]|rw[cd,w4]
   refine fF hA (aw hA h20) (by first|exact v2|exact v1) (by first|exact v3|exact v4) (fun u0 u1 u2 u3 hu du eu=>⟨_,_,_,_,rfl,?_⟩);refine zc ?_;obtain⟨h21,hh21⟩:∃z,z=lowered h20 hu:=⟨_,rfl⟩;have e21:Ext h h21:=by rw[hh21];exact bP hA hlow e20 eu
   rw[<-hh21,<-hmi];refine nW hA (aw hA h21) dY du f1 f2 (fun n' d' e' hv ho ev=>⟨_,_,_,rfl,?_⟩);refine zq ?_;exact hQ _ _ _ (.inr ⟨p,q,hp,hq,ho⟩) _ (bP hA hlow e21 ev)
 refine EU hA lY dz dw (fun r hS hr eS=>⟨_,rfl,?_⟩);have eB:=eY.trans eS;have lB:=eB.lowOK hlow;cases r with
 |true=>
  have lt:=hr.1 rfl;refine zc ?_;obtain⟨h10,hh10⟩:∃z,z=bump hS 8:=⟨_,rfl⟩;have e10:Ext h h10:=by rw[hh10];exact eB.trans (aq hA _ _)
  have l10:=e10.lowOK hlow;rw[<-hh10];refine C3 hA (aw hA h10) dw dz (Int.le_of_lt lt) (fun t0 t1 t2 t3 hU dT eU=>⟨_,_,_,_,rfl,?_⟩);refine zc ?_;obtain⟨hT,hhT⟩:∃z,z=lowered h10 hU:=⟨_,rfl⟩;have eT:Ext h hT:=by rw[hhT];exact bP hA hlow e10 eU
  rw[<-hhT];refine zq ?_;obtain⟨mi,hmi⟩:∃z,z=cmp .lss m 0:=⟨_,rfl⟩;have key:∀k:Int,k=Int.gcd g ((B-A) % g)->(p+q).num=(if mi=true then -((B-A) / k)else(B-A) / k)/\((p+q).den:Int)=E*(d / k)/\0<k/\k<=g/\0<=B-A:=fun k hk=>by
   obtain⟨f1,f2,f3,f4,f5,_⟩:=kL hq hp (by rw[hg,Int.gcd_comm]) fB fA (T:=B-A) (neg:=mi) (.inr (.inl ⟨fun w=>c w.symm,Int.le_of_lt lt,rfl,by rw[hmi,au hA];exact dec m⟩)) hk;rw[Rat.add_comm];exact⟨f1,by rw[f2,hE],f3,f4,f5⟩
  generalize B-A=T at *;have lT:=eT.lowOK hlow;refine nZ hA lT dT hgp (by omega) (fun _ _ _ _ r1 hO1 _ hr1 eO1=>⟨_,_,_,_,_,rfl,?_⟩);have eU1:=eT.trans eO1;have lU1:=eU1.lowOK hlow;refine zc ?_;have r10:0<=r1:=by rw[hr1];exact Int.emod_nonneg _ (by omega)
  have r11:r1<g:=by rw[hr1];exact Int.emod_lt_of_pos _ hgp
  refine lu hA lU1 (by unfold u64;omega) (by unfold u64;omega) (fun k hk hO2 eO2=>⟨_,rfl,?_⟩);have eU2:=eU1.trans eO2;have lU2:=eU2.lowOK hlow;refine zc ?_;obtain⟨f1,f2,f3,f4,f5⟩:=key k (by rw[hk,hr1,Int.gcd_comm]);refine nZ hA lU2 dT f3 (by omega) (fun y0 y1 y2 y3 _ hO3 dY _ eO3=>⟨_,_,_,_,_,rfl,?_⟩);have eU3:=eU2.trans eO3;have lU3:=eU3.lowOK hlow;refine zc ?_;obtain⟨rb,hb1,hb2⟩:=Ll y0 y1 y2 y3;rw[qy hA];refine⟨AY,rb,hb1,?_⟩;obtain⟨Y,hY⟩:∃z,z=T / k:=⟨_,rfl⟩;rw[<-hY]at f1 dY;have Y0:0<=Y:=by rw[hY];exact Int.ediv_nonneg f5 (by omega)
  cases rb with
  |true=>
   refine zc ?_;have y0:Y=0:=by
    obtain⟨g1,g2,g3,g4⟩:=hb2.1 rfl;obtain⟨g5,_⟩:=dY;omega
   have s0:p+q=0:=Rat.num_eq_zero.1 (by rw[f1,y0];split<;>rfl);exact hQ _ _ _ (.inr ⟨p,q,hp,hq,.inl ⟨by show fits (p+q);rw[s0];exact⟨by decide,by decide,by decide⟩,by show(0:Int)=(p+q).num;rw[s0];rfl,by show(1:Int)=(p+q).den;rw[s0];rfl,rfl⟩⟩) _ eU3
  |false=>
   refine zc ?_;obtain⟨h20,hh20⟩:∃z,z=bump hO3 20:=⟨_,rfl⟩;have e20:Ext h h20:=by rw[hh20];exact eU3.trans (aq hA _ _)
   have l20:=e20.lowOK hlow;rw[<-hh20];have w3:arith .quo .u64 e k=e / k:=gX hA ue.1 ue.2 f3;have w4:arith .quo .u64 d k=d / k:=gX hA ud.1 ud.2 f3;have v3:=cG ue f3;have v4:=cG ud f3;generalize e / k=E2 at *;generalize d / k=D2 at *;refine⟨cY hA (by omega),?_⟩;refine zc ?_;first|rw[cd,w2]|rw[ce,w1]
   refine⟨cY hA (by omega),?_⟩;refine zc ?_;first|rw[ce,w3]|rw[cd,w4]
   refine fF hA (aw hA h20) (by first|exact v2|exact v1) (by first|exact v3|exact v4) (fun u0 u1 u2 u3 hu du eu=>⟨_,_,_,_,rfl,?_⟩);refine zc ?_;obtain⟨h21,hh21⟩:∃z,z=lowered h20 hu:=⟨_,rfl⟩;have e21:Ext h h21:=by rw[hh21];exact bP hA hlow e20 eu
   rw[<-hh21,<-hmi];refine nW hA (aw hA h21) dY du f1 f2 (fun n' d' e' hv ho ev=>⟨_,_,_,rfl,?_⟩);refine zq ?_;exact hQ _ _ _ (.inr ⟨p,q,hp,hq,ho⟩) _ (bP hA hlow e21 ev)
 |false=>
  have lt:B<=A:=by
   by_cases w:A<B
   ·have:=hr.2 w;cases this
   ·omega
  refine zc ?_;refine C3 hA lB dz dw lt (fun t0 t1 t2 t3 hU dT eU=>⟨_,_,_,_,rfl,?_⟩);refine zc ?_;have eT:=eB.trans eU;obtain⟨mi,hmi⟩:∃z,z=cmp .lss n 0:=⟨_,rfl⟩;have key:∀k:Int,k=Int.gcd g ((A-B) % g)->(p+q).num=(if mi=true then -((A-B) / k)else(A-B) / k)/\((p+q).den:Int)=D*(e / k)/\0<k/\k<=g/\0<=A-B:=fun k hk=>by
   obtain⟨f1,f2,f3,f4,f5,_⟩:=kL hp hq hg fA fB (T:=A-B) (neg:=mi) (.inr (.inl ⟨c,lt,rfl,by rw[hmi,au hA];exact dec n⟩)) hk;exact⟨f1,by rw[f2,hD],f3,f4,f5⟩
  generalize A-B=T at *;have lT:=eT.lowOK hlow;refine nZ hA lT dT hgp (by omega) (fun _ _ _ _ r1 hO1 _ hr1 eO1=>⟨_,_,_,_,_,rfl,?_⟩);have eU1:=eT.trans eO1;have lU1:=eU1.lowOK hlow;refine zc ?_;have r10:0<=r1:=by rw[hr1];exact Int.emod_nonneg _ (by omega)
  have r11:r1<g:=by rw[hr1];exact Int.emod_lt_of_pos _ hgp
  refine lu hA lU1 (by unfold u64;omega) (by unfold u64;omega) (fun k hk hO2 eO2=>⟨_,rfl,?_⟩);have eU2:=eU1.trans eO2;have lU2:=eU2.lowOK hlow;refine zc ?_;obtain⟨f1,f2,f3,f4,f5⟩:=key k (by rw[hk,hr1,Int.gcd_comm]);refine nZ hA lU2 dT f3 (by omega) (fun y0 y1 y2 y3 _ hO3 dY _ eO3=>⟨_,_,_,_,_,rfl,?_⟩);have eU3:=eU2.trans eO3;have lU3:=eU3.lowOK hlow;refine zc ?_;obtain⟨rb,hb1,hb2⟩:=Ll y0 y1 y2 y3;rw[qy hA];refine⟨AY,rb,hb1,?_⟩;obtain⟨Y,hY⟩:∃z,z=T / k:=⟨_,rfl⟩;rw[<-hY]at f1 dY;have Y0:0<=Y:=by rw[hY];exact Int.ediv_nonneg f5 (by omega)
  cases rb with
  |true=>
   refine zc ?_;have y0:Y=0:=by
    obtain⟨g1,g2,g3,g4⟩:=hb2.1 rfl;obtain⟨g5,_⟩:=dY;omega
   have s0:p+q=0:=Rat.num_eq_zero.1 (by rw[f1,y0];split<;>rfl);exact hQ _ _ _ (.inr ⟨p,q,hp,hq,.inl ⟨by show fits (p+q);rw[s0];exact⟨by decide,by decide,by decide⟩,by show(0:Int)=(p+q).num;rw[s0];rfl,by show(1:Int)=(p+q).den;rw[s0];rfl,rfl⟩⟩) _ eU3
  |false=>
   refine zc ?_;obtain⟨h20,hh20⟩:∃z,z=bump hO3 20:=⟨_,rfl⟩;have e20:Ext h h20:=by rw[hh20];exact eU3.trans (aq hA _ _)
   have l20:=e20.lowOK hlow;rw[<-hh20];have w3:arith .quo .u64 e k=e / k:=gX hA ue.1 ue.2 f3;have w4:arith .quo .u64 d k=d / k:=gX hA ud.1 ud.2 f3;have v3:=cG ue f3;have v4:=cG ud f3;generalize e / k=E2 at *;generalize d / k=D2 at *;refine⟨cY hA (by omega),?_⟩;refine zc ?_;first|rw[cd,w2]|rw[ce,w1]
   refine⟨cY hA (by omega),?_⟩;refine zc ?_;first|rw[ce,w3]|rw[cd,w4]
   refine fF hA (aw hA h20) (by first|exact v2|exact v1) (by first|exact v3|exact v4) (fun u0 u1 u2 u3 hu du eu=>⟨_,_,_,_,rfl,?_⟩);refine zc ?_;obtain⟨h21,hh21⟩:∃z,z=lowered h20 hu:=⟨_,rfl⟩;have e21:Ext h h21:=by rw[hh21];exact bP hA hlow e20 eu
   rw[<-hh21,<-hmi];refine nW hA (aw hA h21) dY du f1 f2 (fun n' d' e' hv ho ev=>⟨_,_,_,rfl,?_⟩);refine zq ?_;exact hQ _ _ _ (.inr ⟨p,q,hp,hq,ho⟩) _ (bP hA hlow e21 ev)
theorem H5{h:af}(hlow:h.low<=h.next){n d:Int}(h0:-1000000000000000000<=n)(h1:n<=1000000000000000000){Q:Value->af->Prop}(hQ:Q (.agg #[.int .i64 (-n),.int .i64 d]) h):call 66 [.agg #[.int .i64 n,.int .i64 d]] h Q:=by
 refine hA.bodyR Try.func66 r66_ok (hA.alike _ _ _ rfl) hlow (zc ?_);rw[show neg .i64 n=-n by rw[rY hA,fX (by omega) (by omega)];omega];exact hQ
theorem CX{h:af}(hlow:h.low<=h.next){n d m e:Int}(hn:i64 n)(hd:i64 d)(hm:i64 m)(he:i64 e){Q:Value->af->Prop}
  (hQ:∀a b r,zP (· - ·) n d m e a b r->∀h',Ext h h'->Q (.tuple #[.agg #[.int .i64 a,.int .i64 b],.int .i64 r]) h'):call 47 [.agg #[.int .i64 n,.int .i64 d],.agg #[.int .i64 m,.int .i64 e]] h Q:=by
 refine hA.bodyR Try.func47 r47_ok (hA.alike _ _ _ rfl) hlow (zc ?_);refine kK hA hlow hn hd hm he (fun r1 h1 k1 x1=>⟨_,rfl,?_⟩);refine zc ?_;refine br (r1≠0) (by rw[bL hA]) (fun c1=>?_) (fun c1=>?_)<;>refine zc ?_
 ·refine kK hA (x1.lowOK hlow) hn hd hm he (fun r3 h3 k3 x3=>⟨_,rfl,?_⟩)
  refine zc ?_;rcases k1 with ⟨q,_⟩|⟨rfl,q⟩
  ·exact absurd q c1
  ·rcases k3 with ⟨_,q3⟩|⟨rfl,_⟩
   ·exact absurd q3 q
   ·exact hQ _ _ _ (.inl ⟨q,rfl,rfl,rfl⟩) _ (x1.trans x3)
 rcases k1 with ⟨_,⟨p,hp⟩,q,hq⟩|⟨q,_⟩
 rotate_left
 ·omega
 have hg:=hq.neg;obtain⟨h9,hh9⟩:∃z,z=bump h1 8:=⟨_,rfl⟩;have e9:Ext h h9:=by rw[hh9];exact x1.trans (aq hA _ _)
 have l9:=e9.lowOK hlow;rw[<-hh9];have b1:=hq.1 ▸ hq.2.2.1;have b2:=hq.1 ▸ hq.2.2.2.1;refine H5 hA (aw hA h9) b1 b2 ⟨_,_,rfl,?_⟩;refine zc ?_;rw[bJ hA l9];refine yj hA (aw hA h9) hn hd hg.i64n hg.i64d (fun a b r ho hz ez=>⟨_,_,_,rfl,?_⟩);refine zq ?_;refine hQ a b r (.inr ⟨p,q,hp,hq,?_⟩) _ (bP hA hlow e9 ez);rcases ho with ⟨w,_⟩|⟨p',q',hp',hq',ho⟩
 ·exact absurd ⟨⟨p,hp⟩,⟨-q,hg⟩⟩ w
 ·obtain rfl:=hp.uniq hp'
  obtain rfl:=hg.uniq hq';show mE (p-q) a b r;rw[Rat.sub_eq_add_neg];exact ho
