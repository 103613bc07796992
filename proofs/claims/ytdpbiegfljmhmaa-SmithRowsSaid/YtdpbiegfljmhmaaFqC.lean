import Derived.Test.YtdpbiegfljmhmaaDetG
import Derived.Test.YtdpbiegfljmhmaaSmB
import Derived.Test.YtdpbiegfljmhmaaSmIn
import Derived.Test.YtdpbiegfljmhmaaSymFacts
import Derived.Test.YtdpbiegfljmhmaaSmX
set_option linter.unusedSimpArgs false
set_option linter.unusedVariables false
namespace Go.Proofs.Ytdpbiegfljmhmaa
open Go.Sim
set_option maxRecDepth 100000
structure kv(g:List (List Int))(m n r:Nat):Prop where
 lm:r<=m
 ln:r<=n
 nz:∀k,k<r->Ext.Dv g m n (k+1)≠0
 fin:r=m\/r=n\/Ext.Dv g m n (r+1)=0
theorem kv.uniq{g:List (List Int)}{m n r s:Nat}(h:kv g m n r)(k:kv g m n s):r=s:=by
 have one:∀{r s:Nat},kv g m n r->kv g m n s->¬r<s:=fun {r s} h k q=>by
  rcases h.fin with e|e|e
  ·have:=k.lm;omega
  ·have:=k.ln;omega
  ·exact k.nz r q e
 have:=one h k;have:=one k h;omega
def Bd(g:List (List Int))(m n:Nat)(k:Nat):List Int:=gn (fun x=>(Ext.Dv g m n x:Int)) k
def vF(g:List (List Int))(m n:Nat)(r:Nat):List Int:=gn (fun x=>((Ext.Dv g m n (x+1) / Ext.Dv g m n x:Nat):Int)) r
theorem J6(a b:Int):rq a b=Rat.divInt a b:=by unfold rq;rw[Rat.divInt_eq_div]
theorem sT{a b:Int}(ha:a.natAbs<=1000000000000000000)(hb:b.natAbs<=1000000000000000000)(h0:b≠0):fits (rq a b):=by
 unfold fits;rw[J6,Rat.num_divInt,Rat.den_divInt,if_neg h0];have h1:(b.sign*a / (Int.gcd b a:Int)).natAbs<=a.natAbs:=by
  refine Nat.le_trans (Int.natAbs_ediv_le_natAbs _ _) ?_;rw[Int.natAbs_mul];have:b.sign.natAbs<=1:=by
   rcases Int.lt_trichotomy b 0 with q|q|q
   ·rw[Int.sign_eq_neg_one_of_neg q];decide
   ·omega
   ·rw[Int.sign_eq_one_of_pos q];decide
  calc b.sign.natAbs*a.natAbs<=1*a.natAbs:=Nat.mul_le_mul_right _ this
   _=a.natAbs:=Nat.one_mul _
 have h2:b.natAbs / Int.gcd b a<=b.natAbs:=Nat.div_le_self _ _;omega
theorem ng{b:Int}(h:b≠0):(b:Rat)≠0:=fun q=>h (Rat.intCast_eq_zero_iff.1 q)
theorem qJ{a b d:Int}(hd:d≠0):rq a d+rq b d=rq (a+b) d:=by
 have:=ng hd;unfold rq;rw[Rat.intCast_add];grind
theorem GH{a b d:Int}(hd:d≠0):rq a d-rq b d=rq (a-b) d:=by
 have:=ng hd;unfold rq;rw[Rat.intCast_sub];grind
theorem Gw(l a d:Int):(l:Rat)*rq a d=rq (l*a) d:=by
 unfold rq;rw[Rat.intCast_mul];grind
theorem lJ{l d:Int}(hd:d≠0):(l:Rat)=rq (l*d) d:=by
 have:=ng hd;unfold rq;rw[Rat.intCast_mul];grind
theorem yx{a d c:Int}(hc:c≠0):rq (a*c) (d*c)=rq a d:=by
 have:=ng hc;unfold rq;rw[Rat.intCast_mul,Rat.intCast_mul];by_cases h:(d:Rat)=0
 ·rw[h];simp[Rat.div_def,Rat.inv_zero]
 ·grind
theorem FV{a b d e:Int}(hd:d≠0)(he:e≠0):rq a d=rq b e↔a*e=b*d:=by
 have h1:=ng hd;have h2:=ng he;rw[<-Rat.intCast_inj (a:=a*e),Rat.intCast_mul,Rat.intCast_mul];unfold rq;constructor<;>intro h<;>grind
theorem F4{a b d:Int}(hd:d≠0):rq a d=rq b d↔a=b:=by
 rw[FV hd hd];exact⟨fun h=>Int.eq_of_mul_eq_mul_right hd h,fun h=>by rw[h]⟩
theorem H6{n d z D:Int}(h:gS n d (rq z D))(hD:D≠0):n*D=z*d:=by
 have h1:=h.val;have hd:=h.den;exact(FV (a:=n) (b:=z) (by omega) hD).1 h1.symm
theorem wX{n d z D:Int}(h:gS n d (rq z D))(hD:0<D):n / d=z / D:=by
 have hd:=h.den;have hc:=H6 h (by omega);rw[<-Int.mul_ediv_mul_of_pos_left n d hD,hc,Int.mul_comm d D,Int.mul_ediv_mul_of_pos_left z D (by omega)]
theorem EC(g:List (List Int))(m n r:Nat):vF g m n (r+1)=vF g m n r++[((Ext.Dv g m n (r+1) / Ext.Dv g m n r:Nat):Int)]:=gc _ _
theorem kv.pos{g:List (List Int)}{m n r:Nat}(h:kv g m n r){k:Nat}(hk:k<=r):Ext.Dv g m n k≠0:=by
 cases k with
 |zero=>rw[Ext.B8];decide
 |succ k=>exact h.nz k (by omega)
variable{F:aM}{call head arith a0 b0 c0 d0 conv f0 i0 imin ofNat j0 place k0 nz l0 rd wr push next o0 p0 q0 r0 s0 u0 v0 w0 x0 z0 f1 g1 putAt j1 lowered bump l1 addN lt ne o1 s1 u1 yn v1 z1 b2 f2 i2 j2:_}(hA:AP F ⟨call,head,arith,a0,b0,c0,d0,conv,f0,i0,imin,ofNat,j0,place,k0,nz,l0,rd,wr,push,next,o0,p0,q0,r0,s0,u0,v0,w0,x0,z0,f1,g1,putAt,j1,lowered,bump,l1,addN,lt,ne,o1,s1,u1,yn,v1,z1,b2,f2,i2,j2⟩)
include hA
theorem Fw{m:Nat}(hm:m<=4){M:Int}(eM:M=m):arith .shl .i64 1 M=((2 ^ m:Nat):Int):=by
 rw[Jy hA,eM];have h1:m=0\/m=1\/m=2\/m=3\/m=4:=by omega
 rcases h1 with rfl|rfl|rfl|rfl|rfl<;>rfl
theorem KJ{h0:af}(hl0:h0.low<=h0.next){m n ac k R g0 p2:Nat}{aa:Option Addr}{bY:List Hd}{g:List (List Int)}(hM:kT g m n)(hg:jX nC 1 h0 aa m bY g){K RI P W:Int}(eK:K=k)(eR:RI=R)(hR:R<2 ^ m)(hk:k<=4)(lR:(Ext.bl m R).length=k)(ep2:p2=2 ^ n)(eP:P=p2){Q:Exit->SS->Prop}
  (hQ:∀(h':af) (gg:Nat) (G:Int),Ext h0 h'->G=gg->gg<=157464->(∀d:Nat,d∣gg↔d∣g0/\∀C,C<p2->(Ext.bl n C).length=k->d∣(Ext.wZ g k (Ext.bl m R) (Ext.bl n C)).natAbs)->Q (.exit 2) ⟨[(0,.slice aa m ac),(1,.int .i64 K),(5,.int .i64 G),(10,.int .i64 W),(11,.int .i64 RI)],0,[],h'⟩) :
  ∀(d C gg:Nat) (CI G:Int) (h:af),p2-C<=d->C<=p2->CI=C->Ext h0 h->G=gg->gg<=157464->(∀d:Nat,d∣gg↔d∣g0/\∀x,x<C->(Ext.bl n x).length=k->d∣(Ext.wZ g k (Ext.bl m R) (Ext.bl n x)).natAbs)->
   head 53 7 0 ⟨[(0,.slice aa m ac),(1,.int .i64 K),(5,.int .i64 G),(6,.int .i64 RI),(10,.int .i64 W),(11,.int .i64 RI),(23,.int .i64 P),(24,.int .i64 CI)],0,[],h⟩ Q:=by
 intro d;have m4:=hM.m4;have n4:=hM.n4;have pw:∀x,x<=4->2 ^ x<=16:=fun x hx=>Nat.pow_le_pow_right (n:=2) (by omega) hx
 have pn:=pw n n4;have pm:=pw m m4
 induction d with
 |zero=>
  intro C gg CI G h hd hC eC x eG hb hdv;refine hA.roundR Try.func53 r53_ok (zc ?_);refine br (CI<P) (by rw[au hA]) (fun q=>by omega) (fun _=>?_)<;>refine zc ?_;obtain rfl:C=p2:=by omega
  exact hQ h gg G x eG hb hdv
 |succ d ih=>
 intro C gg CI G h hd hC eC x eG hb hdv;by_cases cC:C<p2
 rotate_left
 ·refine hA.roundR Try.func53 r53_ok (zc ?_)
  refine br (CI<P) (by rw[au hA]) (fun q=>by omega) (fun _=>?_)<;>refine zc ?_;obtain rfl:C=p2:=by omega
  exact hQ h gg G x eG hb hdv
 have hlow:=x.lowOK hl0;have m1:conv .u64 CI=CI:=ke hA (by omega) (by omega);have l4:=Ext.Cs n C n4 (by omega);refine hA.roundR Try.func53 r53_ok (zc ?_);refine br (CI<P) (by rw[au hA]) (fun _=>?_) (fun q=>by omega)<;>refine zc ?_
 (refine zq ?_;repeat ((first|rw[m1]);refine zq ?_))
 refine Dg hA (by omega) (by omega) hlow (fun v ev=>⟨v,rfl,?_⟩);rw[eC,Int.toNat_natCast,l4]at ev;refine zq ?_;refine br (v=K) (by rw[cJ hA]) (fun c=>?_) (fun c=>?_)<;>refine zc ?_
 ·have lC:(Ext.bl n C).length=k:=by omega
  refine zq ?_;refine GU hA hlow hM (hg.ext x) eR eC (by omega) (by omega) (fun b h1 P1 t1 p1=>⟨_,_,rfl,?_⟩);rw[lR]at t1 p1;refine zq ?_;refine BV hA hlow t1 hk (fun i j hi hj=>by rw[p1 i j hi (by omega)];exact hM.nine _ _) (fun w h2 ew wb x2=>⟨w,rfl,?_⟩);have ed:Ext.dt k P1=Ext.wZ g k (Ext.bl m R) (Ext.bl n C):=by
   unfold Ext.wZ;exact Ext.dG (fun i j hi hj=>p1 i j hi (by omega))
  rw[ed]at ew;refine zq ?_;refine Cw hA (x2.lowOK hlow) (a:=G) (b:=w) (by omega) (by omega) (fun h3 x3=>⟨_,rfl,?_⟩);have eg2:Int.gcd G w=Nat.gcd gg (Ext.wZ g k (Ext.bl m R) (Ext.bl n C)).natAbs:=by
   rw[eG,ew];rfl
  rw[eg2];have hb2:Nat.gcd gg (Ext.wZ g k (Ext.bl m R) (Ext.bl n C)).natAbs<=157464:=Ext.Kh hb (by omega);have hdv2:∀d:Nat,d∣Nat.gcd gg (Ext.wZ g k (Ext.bl m R) (Ext.bl n C)).natAbs↔d∣g0/\∀x,x<C+1->(Ext.bl n x).length=k->d∣(Ext.wZ g k (Ext.bl m R) (Ext.bl n x)).natAbs:=fun d=>by
   rw[Nat.dvd_gcd_iff,hdv d];constructor
   ·rintro⟨⟨a1,a2⟩,a3⟩
    refine⟨a1,fun y hy ly=>?_⟩;by_cases e:y=C
    ·rw[e];exact a3
    ·exact a2 y (by omega) ly
   ·rintro⟨a1,a2⟩
    exact⟨⟨a1,fun y hy ly=>a2 y (by omega) ly⟩,a2 C (by omega) lC⟩
  generalize Nat.gcd gg (Ext.wZ g k (Ext.bl m R) (Ext.bl n C)).natAbs=g2 at *;obtain⟨G2,eG2⟩:∃z:Int,z=g2:=⟨_,rfl⟩;rw[<-eG2];refine zq ?_;rw[aB hA (by omega) (by omega)];exact ih (C+1) g2 (CI+1) G2 h3 (by omega) (by omega) (by omega) ((x.trans x2).trans x3) eG2 hb2 hdv2
 ·refine zq ?_
  rw[aB hA (by omega) (by omega)];refine ih (C+1) gg (CI+1) G h (by omega) (by omega) (by omega) x eG hb (fun d=>?_);rw[hdv d];refine and_congr Iff.rfl ⟨fun a y hy ly=>?_,fun a y hy ly=>a y (by omega) ly⟩;by_cases e:y=C
  ·rw[e]at ly;omega
  ·exact a y (by omega) ly
theorem J8{h0:af}(hl0:h0.low<=h0.next){m n ac k pm:Nat}{aa:Option Addr}{bY:List Hd}{g:List (List Int)}(hM:kT g m n)(hg:jX nC 1 h0 aa m bY g){K W:Int}(eK:K=k)(hk:k<=4)(epm:pm=2 ^ m)(eW:W=pm){Q:Exit->SS->Prop}
  (hQ:∀(h':af) (gg:Nat) (G:Int) (kn:Nat) (T:List (Nat×List Value)),Ext h0 h'->G=gg->(∀d:Nat,d∣gg↔∀R,R<pm->(Ext.bl m R).length=k->∀C,C<2 ^ n->(Ext.bl n C).length=k->d∣(Ext.wZ g k (Ext.bl m R) (Ext.bl n C)).natAbs)->Q (.exit 0) ⟨[(5,.int .i64 G)],kn,T,h'⟩) :
  ∀(d R gg:Nat) (RI G:Int) (h:af),pm-R<=d->R<=pm->RI=R->Ext h0 h->G=gg->gg<=157464->(∀d:Nat,d∣gg↔∀x,x<R->(Ext.bl m x).length=k->∀C,C<2 ^ n->(Ext.bl n C).length=k->d∣(Ext.wZ g k (Ext.bl m x) (Ext.bl n C)).natAbs)->
   head 53 3 0 ⟨[(0,.slice aa m ac),(1,.int .i64 K),(5,.int .i64 G),(10,.int .i64 W),(11,.int .i64 RI)],0,[],h⟩ Q:=by
 intro d;have m4:=hM.m4;have n4:=hM.n4;have pw:∀x,x<=4->2 ^ x<=16:=fun x hx=>Nat.pow_le_pow_right (n:=2) (by omega) hx
 have pm16:=pw m m4;have mpos:=hM.m1
 induction d with
 |zero=>
  intro R gg RI G h hd hR eR x eG hb hdv;refine hA.roundR Try.func53 r53_ok (zc ?_);refine br (RI<W) (by rw[au hA]) (fun q=>by omega) (fun _=>?_)<;>refine zc ?_;obtain rfl:R=pm:=by omega
  exact hQ h gg G _ _ x eG hdv
 |succ d ih=>
 intro R gg RI G h hd hR eR x eG hb hdv;by_cases cR:R<pm
 rotate_left
 ·refine hA.roundR Try.func53 r53_ok (zc ?_)
  refine br (RI<W) (by rw[au hA]) (fun q=>by omega) (fun _=>?_)<;>refine zc ?_;obtain rfl:R=pm:=by omega
  exact hQ h gg G _ _ x eG hdv
 have hlow:=x.lowOK hl0;have m1:conv .u64 RI=RI:=ke hA (by omega) (by omega);have l4:=Ext.Cs m R m4 (by omega);obtain⟨N,eN⟩:∃z:Int,z=n:=⟨_,rfl⟩;have e0:ofNat n=N:=by rw[eN];exact aF hA n
 obtain⟨p2,ep2⟩:∃z:Nat,z=2 ^ n:=⟨_,rfl⟩;obtain⟨P,eP⟩:∃z:Int,z=p2:=⟨_,rfl⟩;have m2:arith .shl .i64 1 N=P:=by rw[eP,ep2];exact Fw hA hM.n4 eN
 obtain⟨ab,ao,rfl,hab,q1⟩:=(hg.ext x).hdAt (i:=0) (by omega) (by have:=hM.m1;omega);have row:=hg.row 0 (by omega) (by have:=hM.m1;omega);have hln:(gt g 0).length=n:=hM.row 0 (by omega) (by have:=hM.m1;omega);have hn2:=row.len;rw[hln]at hn2;rw[<-hn2]at q1;obtain⟨ra,era⟩:∃z,z=(gt bY 0).a:=⟨_,rfl⟩;obtain⟨rc,erc⟩:∃z,z=(gt bY 0).c:=⟨_,rfl⟩;rw[<-era,<-erc]at q1;have r1:rd h ab (place ao 0 1) 1 [.slice ra n rc]:=az hA q1;refine hA.roundR Try.func53 r53_ok (zc ?_);refine br (RI<W) (by rw[au hA]) (fun _=>?_) (fun q=>by omega)<;>refine zc ?_
 (refine zq ?_;repeat ((first|rw[m1]);refine zq ?_))
 refine Dg hA (by omega) (by omega) hlow (fun v ev=>⟨v,rfl,?_⟩);rw[eR,Int.toNat_natCast,l4]at ev;refine zq ?_;refine br (v≠K) (by rw[bL hA]) (fun c=>?_) (fun c=>?_)<;>refine zc ?_
 ·refine zq ?_
  rw[aB hA (by omega) (by omega)];refine ih (R+1) gg (RI+1) G h (by omega) (by omega) (by omega) x eG hb (fun d=>?_);rw[hdv d];refine⟨fun a y hy ly=>?_,fun a y hy ly=>a y (by omega) ly⟩;by_cases e:y=R
  ·rw[e]at ly;omega
  ·exact a y (by omega) ly
 ·have lR:(Ext.bl m R).length=k:=by omega
  (refine zq ?_;repeat ((first|rw[e0]|rw[m2]);refine zq ?_))
  refine KJ hA hl0 hM hg eK eR (by omega) hk lR ep2 eP (g0:=gg) (fun h' g2 G2 x' eG2 hb2 hdv2=>?_) p2 0 gg 0 G h (by omega) (by omega) rfl x eG hb (fun d=>⟨fun a=>⟨a,fun y hy=>by omega⟩,fun a=>a.1⟩);refine zq ?_;rw[aB hA (by omega) (by omega)];refine ih (R+1) g2 (RI+1) G2 h' (by omega) (by omega) (by omega) x' eG2 hb2 (fun d=>?_);rw[hdv2 d,hdv d,<-ep2];constructor
  ·rintro⟨a1,a2⟩ y hy ly
   by_cases e:y=R
   ·rw[e];exact a2
   ·exact a1 y (by omega) ly
  ·intro a
   exact⟨fun y hy ly=>a y (by omega) ly,a R (by omega) lR⟩
theorem Bw{h:af}(hlow:h.low<=h.next){m n ac k:Nat}{aa:Option Addr}{bY:List Hd}{g:List (List Int)}(hM:kT g m n)(hg:jX nC 1 h aa m bY g){K:Int}(eK:K=k)(hk:k<=4){Q:Value->af->Prop}
  (hQ:∀(v:Int) h',v=Ext.Dv g m n k->Ext h h'->Q (.int .i64 v) h'):call 53 [.slice aa m ac,.int .i64 K] h Q:=by
 obtain⟨M,eM⟩:∃z:Int,z=m:=⟨_,rfl⟩;have e1:ofNat m=M:=by rw[eM];exact aF hA m
 obtain⟨pm,epm⟩:∃z:Nat,z=2 ^ m:=⟨_,rfl⟩;obtain⟨W,eW⟩:∃z:Int,z=pm:=⟨_,rfl⟩;have m2:arith .shl .i64 1 M=W:=by rw[eW,epm];exact Fw hA hM.m4 eM
 refine hA.bodyR Try.func53 r53_ok (hA.alike _ _ _ rfl) hlow (zc ?_)
 (refine zq ?_;repeat ((first|rw[e1]|rw[m2]);refine zq ?_))
 refine J8 hA hlow hM hg eK hk epm eW (fun h' gg G kn T x eG hdv=>?_) pm 0 0 0 0 h (by omega) (by omega) rfl (.refl h) rfl (by omega) (fun d=>⟨fun _ y hy=>by omega,fun _=>Nat.dvd_zero d⟩);have:=Ext.KA hM.m4 hM.n4 hk (fun d=>by rw[<-epm];exact hdv d);refine zq ?_;exact hQ G h' (by rw[eG,this]) x
theorem IJ{h0:af}(hl0:h0.low<=h0.next){m n ac:Nat}{aa:Option Addr}{bY:List Hd}{g:List (List Int)}(hM:kT g m n)(hg:jX nC 1 h0 aa m bY g){Q:Exit->SS->Prop}
  (hQ:∀(h':af) (b k c r:Nat),k=r+1->kv g m n r->CF h' 1 b k c ((Bd g m n k).flatMap nC)->h0.next<=b->Ext h0 h'->Q (.exit 0) ⟨[(3,.slice (some ⟨b,0,none⟩) k c)],0,[],h'⟩) :
  ∀(d k b c:Nat) (K:Int) (h:af),6-k<=d->1<=k->k<=m+1->k<=n+1->K=k->(∀x,x+1<k->Ext.Dv g m n (x+1)≠0)->CF h 1 b k c ((Bd g m n k).flatMap nC)->h0.next<=b->Ext h0 h->
   head 27 3 0 ⟨[(0,.slice aa m ac),(3,.slice (some ⟨b,0,none⟩) k c),(4,.int .i64 K)],0,[],h⟩ Q:=by
 intro d;have m4:=hM.m4;have n4:=hM.n4;have m1:=hM.m1;have n1:=hM.n1;obtain⟨M,eM⟩:∃z:Int,z=m:=⟨_,rfl⟩;have e1:ofNat m=M:=by rw[eM];exact aF hA m
 obtain⟨N,eN⟩:∃z:Int,z=n:=⟨_,rfl⟩;have e2:ofNat n=N:=by rw[eN];exact aF hA n
 obtain⟨W,eW⟩:∃z:Int,z=if N<M then N else M:=⟨_,rfl⟩
 have e3:imin M N=W:=by rw[eW,JB hA]
 have hW:W=N/\N<=M\/W=M/\M<=N:=by rw[eW];split<;>omega
 have hln:(gt g 0).length=n:=hM.row 0 (by omega) (by omega);have row:=hg.row 0 (by omega) (by omega);have hn2:=row.len;rw[hln]at hn2
 induction d with
 |zero=>intro k b c K h hd k1 km kn;omega
 |succ d ih=>
 intro k b c K h hd k1 km kn eK hz B hb x;have hlow:=x.lowOK hl0;obtain⟨ab,ao,rfl,hab,q1⟩:=(hg.ext x).hdAt (i:=0) (by omega) (by omega);rw[<-hn2]at q1;obtain⟨ra,era⟩:∃z,z=(gt bY 0).a:=⟨_,rfl⟩;obtain⟨rc,erc⟩:∃z,z=(gt bY 0).c:=⟨_,rfl⟩;rw[<-era,<-erc]at q1;have r1:rd h ab (place ao 0 1) 1 [.slice ra n rc]:=az hA q1;refine hA.roundR Try.func27 r27_ok (zc ?_)
 (refine zq ?_;repeat ((first|rw[e1]|rw[e2]|rw[e3]);refine zq ?_))
 refine br (K<=W) (by rw[iw hA]) (fun ck=>?_) (fun ck=>?_)<;>refine zc ?_
 rotate_left
 ·exact hQ h b k c (k-1) (by omega) ⟨by omega,by omega,fun y hy=>hz y (by omega),by omega⟩ B hb x
 refine zq ?_;refine Bw hA hlow hM (hg.ext x) eK (by omega) (fun v h1 ev x1=>⟨v,rfl,?_⟩);refine zq ?_;refine br (v=0) (by rw[cJ hA]) (fun cz=>?_) (fun cz=>?_)<;>refine zc ?_
 ·refine hQ h1 b k c (k-1) (by omega) ⟨by omega,by omega,fun y hy=>hz y (by omega),?_⟩ (B.ext x1) hb (x.trans x1)
  rw[show k-1+1=k by omega];omega
 obtain⟨nb,enb⟩:∃z,z=next h1:=⟨_,rfl⟩;obtain⟨X,eX⟩:∃z,z=push h1 1 [.int .i64 v]:=⟨_,rfl⟩;refine zc ?_;rw[<-enb,<-eX];refine zq ?_;refine Ft hA (B.ext x1) (by omega) eX enb (fun b' c' h' B2 k2 k3 k4=>?_);obtain⟨x2,hb2⟩:=k2 h0 (x.trans x1) hb;have ed:Bd g m n k++[v]=Bd g m n (k+1):=by
  unfold Bd;rw[gc,ev]
 rw[ed]at B2;obtain⟨k1',ek1⟩:∃z,z=k+1:=⟨_,rfl⟩;rw[<-ek1]at B2 ⊢;refine zq ?_;rw[aB hA (by omega) (by omega)];refine ih k1' b' c' (K+1) h' (by omega) (by omega) (by omega) (by omega) (by omega) (fun y hy=>?_) B2 hb2 x2;by_cases e:y+1=k
 ·rw[e];omega
 ·exact hz y (by omega)
theorem rt{h:af}(hlow:h.low<=h.next){m n ac:Nat}{aa:Option Addr}{bY:List Hd}{g:List (List Int)}(hM:kT g m n)(hg:jX nC 1 h aa m bY g){Q:Value->af->Prop}
  (hQ:∀(h':af) (b k c r:Nat),k=r+1->kv g m n r->CF h' 1 b k c ((Bd g m n k).flatMap nC)->Ext h h'->Q (.slice (some ⟨b,0,none⟩) k c) h'):call 27 [.slice aa m ac] h Q:=by
 obtain⟨nb,enb⟩:∃z,z=next h:=⟨_,rfl⟩;obtain⟨X,eX⟩:∃z,z=push h 1 [.int .i64 1]:=⟨_,rfl⟩;refine hA.bodyR Try.func27 r27_ok (hA.alike _ _ _ rfl) hlow (zc ?_);rw[<-enb,<-eX];refine zq ?_;rw[cM hA]at eX;rw[bV hA]at enb;have xp:Ext h X:=by rw[eX];exact Ext.push h 1 _
 have B:CF X 1 nb 1 1 ((Bd g m n 1).flatMap nC):=by
  have:(Bd g m n 1).flatMap nC=[.int .i64 1]:=by
   unfold Bd gn;simp[List.range_succ,nC,Ext.B8]
  rw[this,eX,enb];exact⟨bG.push h 1 _,by simp[af.push],rfl,.inl rfl⟩
 refine IJ hA hlow hM hg (fun h' b k c r ek ir B' hb x=>?_) 5 1 nb 1 1 X (by omega) (by omega) (by omega) (by omega) rfl (fun y hy=>by omega) B (by omega) xp;refine zq ?_;exact hQ h' b k c r ek ir B' x
theorem HN{h:af}(hlow:h.low<=h.next){n d:Int}(hn:i64 n)(n0:-9223372036854775808<n)(hd:0<d){Q:Value->af->Prop}(hQ:Q (.int .i64 (n / d)) h):call 65 [.int .i64 n,.int .i64 d] h Q:=by
 unfold i64 at hn;have t0:=Int.natAbs_tdiv_le_natAbs n d;refine hA.bodyR Try.func65 r65_ok (hA.alike _ _ _ rfl) hlow (zc ?_);have e1:arith .quo .i64 n d=n.tdiv d:=by rw[Aa hA,fX (by omega) (by omega)]
 have e2:arith .rem .i64 n d=n.tmod d:=CH hA _ _ _;have key:=Int.mul_tdiv_add_tmod n d;have lt1:-d<n.tmod d:=Int.lt_tmod_of_pos n hd;have lt2:n.tmod d<d:=Int.tmod_lt_of_pos n hd;generalize n.tdiv d=t at *;generalize n.tmod d=s at *;have ed:=Int.mul_ediv_add_emod n d;have m0:=Int.emod_nonneg n (show d≠0 by omega);have m1:=Int.emod_lt_of_pos n hd
 (refine zq ?_;repeat ((first|rw[e1]|rw[e2]);refine zq ?_))
 refine br (s<0) (by rw[au hA]) (fun c=>?_) (fun c=>?_)<;>refine zc ?_
 ·have e3:t-1=n / d:=by
   have w:s+d+d*(t-1)=n:=by rw[Int.mul_sub,Int.mul_one];omega
   exact((Int.ediv_emod_unique hd).2 ⟨w,by omega,by omega⟩).1.symm
  have t1:-9223372036854775808<=t-1:=by omega
  refine zq ?_;rw[bD hA (by omega) (by omega),e3];exact hQ
 ·have e3:t=n / d:=((Int.ediv_emod_unique (r:=s) hd).2 ⟨by omega,by omega,by omega⟩).1.symm
  refine zq ?_;rw[e3];exact hQ
theorem Es{h:af}(hlow:h.low<=h.next){n d:Int}{q:Rat}(hq:gS n d q){Q:Value->af->Prop}(hQ:∀h',Ext h h'->Q (.tuple #[.int .i64 (n / d),.int .i64 0]) h'):call 46 [.agg #[.int .i64 n,.int .i64 d]] h Q:=by
 have d1:=hq.den;have n1:=hq.2.2.1;rw[<-hq.1]at n1;refine hA.bodyR Try.func46 r46_ok (hA.alike _ _ _ rfl) hlow (zc ?_);refine jy hA hlow hq.i64n hq.i64d (fun e h1 k1 x1=>⟨_,rfl,?_⟩);obtain rfl:e=0:=by
  rcases k1 with ⟨q,_⟩|⟨_,w⟩
  ·exact q
  ·exact absurd hq.ok w
 refine zq ?_;refine br False (by rw[bL hA];rfl) (fun q=>q.elim) (fun _=>?_)<;>refine zc ?_;refine zq ?_;refine HN hA (x1.lowOK hlow) hq.i64n (by omega) (by omega) ⟨_,rfl,?_⟩;refine zq ?_;exact hQ _ x1
theorem HK{h:af}(hlow:h.low<=h.next){n d z D:Int}(hq:gS n d (rq z D))(hD:0<D)(hD2:D<=1000000000000000000){Q:Value->af->Prop}(hQ:∀n' d' h',gS n' d' (rq (z % D) D)->Ext h h'->Q (.agg #[.int .i64 n',.int .i64 d']) h'):call 20 [.agg #[.int .i64 n,.int .i64 d]] h Q:=by
 have fl:=wX hq hD;have d1:=hq.den;have n1:=hq.2.2.1;have n2:=hq.2.2.2.1;rw[<-hq.1]at n1 n2;obtain⟨w,ew⟩:∃w,w=n / d:=⟨_,rfl⟩;have wb:-1000000000000000000<=w/\w<=1000000000000000000:=by
  have:=Int.natAbs_ediv_le_natAbs n d;rw[<-ew]at this;omega
 have hw:=IM wb.1 wb.2;have m0:=Int.emod_nonneg z (show D≠0 by omega);have m1:=Int.emod_lt_of_pos z hD;have ev:rq z D-(w:Rat)=rq (z % D) D:=by
  rw[ew,fl,lJ (l:=z / D) (show D≠0 by omega),GH (by omega)]
  congr 1
  have:=Int.mul_ediv_add_emod z D;rw[Int.mul_comm]at this;omega
 refine hA.bodyR Try.func20 r20_ok (hA.alike _ _ _ rfl) hlow (zc ?_);refine zq ?_;refine Es hA hlow hq (fun h1 x1=>⟨_,_,rfl,?_⟩);rw[<-ew];obtain⟨X,eX⟩:∃z,z=bump h1 10:=⟨_,rfl⟩;have xb:Ext h1 X:=by rw[eX];exact aq hA _ _
 have lX:X.low<=X.next:=(x1.trans xb).lowOK hlow;refine zq ?_;rw[<-eX];refine J7 hA (aw hA X) ⟨_,_,rfl,?_⟩;refine zq ?_;rw[bJ hA lX];refine CX hA (aw hA X) hq.i64n hq.i64d hw.i64n hw.i64d (fun a b r k h2 x2=>⟨_,_,_,rfl,?_⟩);obtain⟨k1,rfl⟩:=Cy hq hw (f:=(· - ·)) (by show fits (rq z D-(w:Rat));rw[ev];exact sT (by omega) (by omega) (by omega)) k
 replace k1:gS a b (rq z D-(w:Rat)):=k1
 rw[ev]at k1;obtain⟨X2,eX2⟩:∃z,z=lowered X h2:=⟨_,rfl⟩;have x3:Ext h X2:=by rw[eX2];exact bP hA hlow (x1.trans xb) x2
 refine zq ?_;rw[<-eX2];exact hQ a b X2 k1 x3
theorem HU{h0:af}(hl0:h0.low<=h0.next){m n r k b c n1 c1 n2 c2:Nat}{a1 a2:Option Addr}{g:List (List Int)}(hM:kT g m n)(ir:kv g m n r)(ek:k=r+1)(B:CF h0 1 b k c ((Bd g m n k).flatMap nC)){N:Int}(eN:N=k){Q:Exit->SS->Prop}
  (hQ:∀(h':af) qa qc kn T,jw h' 1 qa r qc ((vF g m n r).flatMap nC)->gf h0.next qa->Ext h0 h'->Q (.exit 0) ⟨[(6,.slice qa r qc)],kn,T,h'⟩) :
  ∀(d i:Nat) (K:Int) (h:af) (qa:Option Addr) (qc:Nat),r-i<=d->i<=r->K=i+1->jw h 1 qa i qc ((vF g m n i).flatMap nC)->gf h0.next qa->Ext h0 h->
   head 8 7 1 ⟨[(5,.slice (some ⟨b,0,none⟩) k c),(6,.slice qa i qc),(7,.int .i64 K)],1,[(0,[.slice a1 n1 c1,.slice a2 n2 c2])],h⟩ Q:=by
 intro d;have rm:=ir.lm;have m4:=hM.m4;have e1:ofNat k=N:=by rw[eN];exact aF hA k
 induction d with
 |zero=>
  intro i K h qa qc hd hi eK t hf x;refine hA.roundR Try.func8 r8_ok (zc ?_)
  (refine zq ?_;repeat ((first|rw[e1]);refine zq ?_))
  refine br (K<N) (by rw[au hA]) (fun q=>by omega) (fun _=>?_)<;>refine zc ?_;obtain rfl:i=r:=by omega
  exact hQ h qa qc _ _ t hf x
 |succ d ih=>
 intro i K h qa qc hd hi eK t hf x;by_cases ci:i<r
 rotate_left
 ·refine hA.roundR Try.func8 r8_ok (zc ?_)
  (refine zq ?_;repeat ((first|rw[e1]);refine zq ?_))
  refine br (K<N) (by rw[au hA]) (fun q=>by omega) (fun _=>?_)<;>refine zc ?_;obtain rfl:i=r:=by omega
  exact hQ h qa qc _ _ t hf x
 obtain⟨h9,hh9⟩:∃z,z=bump h 14:=⟨_,rfl⟩;have x9:Ext h h9:=by rw[hh9];exact aq hA _ _
 have e9:=x.trans x9;have B9:=B.ext e9;have R9:=bG.rows B9.own df (by omega) B9.lt;rw[show(Bd g m n k).length=k from aL _ _]at R9;have nzx:=ir.pos (k:=i+1) (by omega);have nzy:=ir.pos (k:=i) (by omega);have lx:=Ext.Jh hM.nine m n (i+1);have ly:=Ext.Jh hM.nine m n i;have es:=EC g m n i;obtain⟨x1,ex1⟩:∃z:Int,z=Ext.Dv g m n (i+1):=⟨_,rfl⟩;obtain⟨y1,ey1⟩:∃z:Int,z=Ext.Dv g m n i:=⟨_,rfl⟩;obtain⟨q,eq⟩:∃z:Int,z=((Ext.Dv g m n (i+1) / Ext.Dv g m n i:Nat):Int):=⟨_,rfl⟩;rw[<-eq]at es;have eq2:q=x1 / y1:=by rw[eq,ex1,ey1];push_cast;rfl
 obtain⟨K1,eK1⟩:∃z:Int,z=K-1:=⟨_,rfl⟩;have m0:arith .sub .i64 K 1=K1:=by rw[eK1];exact bD hA (by omega) (by omega)
 have m1:arith .quo .i64 x1 y1=q:=by rw[eq2];exact qE hA (by omega) (by omega) (by omega)
 have gx:gt (Bd g m n k) K=x1:=by
  have:=cO (fun x=>(Ext.Dv g m n x:Int)) (n:=k) (i:=i+1) (by omega);rw[ex1,eK,show((i:Int)+1)=((i+1:Nat):Int) by omega];exact this
 have gy:gt (Bd g m n k) K1=y1:=by
  have:=cO (fun x=>(Ext.Dv g m n x:Int)) (n:=k) (i:=i) (by omega);rw[ey1,eK1,eK,show((i:Int)+1-1)=(i:Int) by omega];exact this
 obtain⟨b',o',e',_,q1⟩:=R9.at (i:=K) (by omega) (by omega);cases e';have q1:=q1 0 1 (by omega) (by omega);obtain⟨b',o',e',_,q2⟩:=R9.at (i:=K1) (by omega) (by omega);cases e';have q2:=q2 0 1 (by omega) (by omega);rw[gx]at q1;rw[gy]at q2;have r1:rd h9 b (place 0 K 1) 1 [.int .i64 x1]:=az hA q1;have r2:rd h9 b (place 0 K1 1) 1 [.int .i64 y1]:=az hA q2;refine hA.roundR Try.func8 r8_ok (zc ?_)
 (refine zq ?_;repeat ((first|rw[e1]);refine zq ?_))
 refine br (K<N) (by rw[au hA]) (fun _=>?_) (fun q=>by omega)<;>refine zc ?_;refine zq ?_;rw[<-hh9]
 (refine zq ?_;repeat ((first|rw[m0]|rw[m1]);refine zq ?_))
 refine C2 hA Hx df (by omega) uG hl0 x (by omega) hh9 (v:=q) t hf (by omega) (fun a' c' h' hp' hf' x'=>?_);obtain⟨hZ,hhZ⟩:∃z,z=lowered (putAt h9 (addN (next h) 11) 1 (nC q)) h':=⟨_,rfl⟩;rw[<-hhZ]at hp' x';have hhZ':hZ=lowered (putAt h9 (addN (next h) 11) 1 [.int .i64 q]) h':=hhZ;rw[<-es]at hp';obtain⟨i1,ei1⟩:∃z,z=i+1:=⟨_,rfl⟩;rw[<-ei1]at hp' ⊢;refine zc ?_;rw[<-hhZ'];refine zq ?_;rw[aB hA (by omega) (by omega)];exact ih i1 (K+1) hZ a' c' (by omega) (by omega) (by omega) hp' hf' x'
theorem oO{h:af}(hlow:h.low<=h.next){m ac k bc:Nat}{aa ba:Option Addr}{bY:List Hd}{g:List (List Int)}{B:List Fc}(hg:vv nC 1 h aa m bY g)(hB:Rows fC 2 h ba k B)(hi:∀i:Int,0<=i->i<k->i64 (gt B i).n/\i64 (gt B i).d){Q:Value->af->Prop}
  (hQ0:∀e h',hO g B e->e≠0->Ext h h'->Q (.tuple #[.slice none 0 0,.int .i64 e]) h')
  (hQ1:∀h' n r qa qc,hO g B 0->kT g m n->Ext h h'->kv g m n r->jw h' 1 qa r qc ((vF g m n r).flatMap nC)->Q (.tuple #[.slice qa r qc,.int .i64 0]) h'):call 8 [.agg #[.slice aa m ac,.slice ba k bc]] h Q:=by
 refine hA.bodyR Try.func8 r8_ok (hA.alike _ _ _ rfl) hlow (zc ?_);refine zJ hA hlow hg hB hi (fun e h1 he x1=>⟨e,rfl,?_⟩);refine zq ?_;refine br (e≠0) (by rw[bL hA]) (fun c=>?_) (fun c=>?_)<;>refine zc ?_
 ·refine zq ?_
  exact hQ0 e h1 he c x1
 obtain rfl:e=0:=by omega
 obtain⟨gd,nm⟩:=he.good;obtain⟨m',n,hM⟩:=gd.mat nm;obtain rfl:m=m':=by have:=hg.len;have:=hM.len;omega
 have hgf:=hg.full (fun y y0 y1=>by rw[hM.row y y0 y1];exact hM.n1);refine zq ?_;refine rt hA (x1.lowOK hlow) hM (hgf.ext x1) (fun h2 b k2 c2 r ek ir B2 x2=>⟨_,_,_,rfl,?_⟩);obtain⟨N,eN⟩:∃z:Int,z=k2:=⟨_,rfl⟩;refine zq ?_;refine HU hA (x2.lowOK (x1.lowOK hlow)) hM ir ek B2 eN (fun h' qa qc kn T t hf x=>?_) r 0 1 h2 none 0 (by omega) (by omega) rfl (.nil _ _) (.none _) (.refl _);refine zq ?_;exact hQ1 h' n r qa qc he hM ((x1.trans x2).trans x) ir t
theorem E0{h:af}{n k nc kc:Nat}{ba pa:Option Addr}{b p:List Int}(hb:Rows nC 1 h ba n b)(hp:Rows nC 1 h pa k p)(hk:k<=n)(k4:k<=1000){B:Nat}(hB:∀i:Nat,i<k->(gt b (i:Int)*gt p (i:Int)).natAbs<=B)(hB2:k*B<=4000000000000000000){W M:Int}(eM:M=k){Q:Exit->SS->Prop}
  (hQ:∀t kn T,t=Ext.aK (fun i=>gt b (i:Int)*gt p (i:Int)) k->t.natAbs<=k*B->Q (.exit 0) ⟨[(2,.int .i64 W),(7,.int .i64 t)],kn,T,h⟩) :
  ∀(d i:Nat) (I t:Int),k-i<=d->i<=k->I=i->t=Ext.aK (fun i=>gt b (i:Int)*gt p (i:Int)) i->t.natAbs<=i*B->
   head 62 3 0 ⟨[(0,.slice ba n nc),(2,.int .i64 W),(7,.int .i64 t),(10,.slice pa k kc),(11,.int .i64 M),(12,.int .i64 I)],0,[],h⟩ Q:=by
 refine oD (fun d ih=>?_);intro i I t hd hi eI et bt;by_cases ci:i<k
 rotate_left
 ·refine hA.roundR Try.func62 r62_ok (zc ?_)
  refine br (I<M) (by rw[au hA]) (fun q=>by omega) (fun _=>?_)<;>refine zc ?_;obtain rfl:i=k:=by omega
  exact hQ t _ _ et bt
 obtain⟨d,rfl⟩:∃k,d=k+1:=⟨d-1,by omega⟩
 replace ih:=ih d rfl
 obtain⟨bb,bo,rfl,_,w1⟩:=hb.at (i:=I) (by omega) (by omega);have w1:=w1 0 1 (by omega) (by omega);obtain⟨pb,po,rfl,_,w2⟩:=hp.at (i:=I) (by omega) (by omega);have w2:=w2 0 1 (by omega) (by omega);have b1:=hB i ci;obtain⟨x,ex⟩:∃s,s=gt b (i:Int):=⟨_,rfl⟩;obtain⟨y,ey⟩:∃s,s=gt p (i:Int):=⟨_,rfl⟩;rw[eI,<-ex,<-eI]at w1;rw[eI,<-ey,<-eI]at w2;rw[<-ex,<-ey]at b1;have r1:rd h bb (place bo I 1) 1 [.int .i64 x]:=az hA w1;have r2:rd h pb (place po I 1) 1 [.int .i64 y]:=az hA w2;have h1:(i+1)*B<=k*B:=Nat.mul_le_mul_right _ ci;rw[Nat.add_mul]at h1;obtain⟨u,eu⟩:∃s,s=x*y:=⟨_,rfl⟩;rw[<-eu]at b1;have m1:arith .mul .i64 x y=u:=by rw[eu];exact iq hA (by rw[<-eu];omega) (by rw[<-eu];omega)
 obtain⟨t2,et2⟩:∃s,s=t+u:=⟨_,rfl⟩;have m2:arith .add .i64 t u=t2:=by clear et;rw[et2];exact aB hA (by omega) (by omega)
 have bt2:t2.natAbs<=(i+1)*B:=by clear et;rw[Nat.add_mul];omega
 have et3:t2=Ext.aK (fun i=>gt b (i:Int)*gt p (i:Int)) (i+1):=by
  show t2=Ext.aK (fun i=>gt b (i:Int)*gt p (i:Int)) i+gt b (i:Int)*gt p (i:Int);rw[et2,et,eu,ex,ey]
 refine hA.roundR Try.func62 r62_ok (zc ?_);refine br (I<M) (by rw[au hA]) (fun _=>?_) (fun q=>by omega)<;>refine zc ?_
 (refine zq ?_;repeat ((first|rw[m1]|rw[m2]);refine zq ?_))
 rw[aB hA (by omega) (by omega)];exact ih (i+1) (I+1) t2 (by omega) (by omega) (by omega) et3 bt2
theorem xP{h:af}(hlow:h.low<=h.next){n k nc kc:Nat}{ba pa:Option Addr}{b p:List Int}(hb:Rows nC 1 h ba n b)(hp:Rows nC 1 h pa k p)(hk:k<=n)(k4:k<=1000){B:Nat}(hB:∀i:Nat,i<k->(gt b (i:Int)*gt p (i:Int)).natAbs<=B)(hB2:k*B<=4000000000000000000){W:Int}(hW:0<W)(hW2:W<=4000000000000000000){Q:Value->af->Prop}
  (hQ:∀v,v=Ext.aK (fun i=>gt b (i:Int)*gt p (i:Int)) k % W->Q (.int .i64 v) h):call 62 [.slice ba n nc,.slice pa k kc,.int .i64 W] h Q:=by
 obtain⟨M,eM⟩:∃s:Int,s=k:=⟨_,rfl⟩;have e0:ofNat k=M:=by rw[eM];exact aF hA k
 refine hA.bodyR Try.func62 r62_ok (hA.alike _ _ _ rfl) hlow (zc ?_)
 (refine zq ?_;repeat ((first|rw[e0]);refine zq ?_))
 refine E0 hA hb hp hk k4 hB hB2 eM (fun t kn T et bt=>?_) k 0 0 0 (by omega) (by omega) rfl rfl (by show(0:Int).natAbs<=_;exact Nat.zero_le _);have d1:=Int.mul_ediv_add_emod t W;have d2:=Int.emod_nonneg t (show W≠0 by omega);have d3:=Int.emod_lt_of_pos t hW;obtain⟨q,eq⟩:∃s,s=t / W:=⟨_,rfl⟩;obtain⟨r,er⟩:∃s,s=t % W:=⟨_,rfl⟩;obtain⟨u,eu⟩:∃s,s=W*q:=⟨_,rfl⟩;rw[<-eq,<-er,<-eu]at d1;rw[<-er]at d2 d3;have hv:r=Ext.aK (fun i=>gt b (i:Int)*gt p (i:Int)) k % W:=by rw[er,et]
 have hq:=hQ r hv;clear hv et;have m1:arith .mul .i64 W q=u:=by rw[eu];exact iq hA (by rw[<-eu];omega) (by rw[<-eu];omega)
 have m2:arith .sub .i64 t u=r:=by rw[bD hA (by omega) (by omega)];omega
 refine zq ?_;refine ol hA hW (by omega) (by omega) hlow (fun q' eq'=>⟨q',rfl,?_⟩);obtain rfl:q'=q:=by rw[eq',eq]
 (refine zq ?_;repeat ((first|rw[m1]|rw[m2]);refine zq ?_))
 exact hq
