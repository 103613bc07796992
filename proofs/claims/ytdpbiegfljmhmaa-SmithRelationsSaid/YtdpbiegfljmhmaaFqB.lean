import Derived.Test.YtdpbiegfljmhmaaSymGrid
import Derived.Test.YtdpbiegfljmhmaaSmV
import Derived.Test.YtdpbiegfljmhmaaSmIn
import Derived.Test.YtdpbiegfljmhmaaSmB
set_option linter.unusedSimpArgs false
set_option linter.unusedVariables false
namespace Go.Proofs.Ytdpbiegfljmhmaa
open Go.Sim
set_option maxRecDepth 100000
theorem rq_div(a b:Int):rq a b=Rat.divInt a b:=by unfold rq;rw[Rat.divInt_eq_div]
theorem fits_rq{a b:Int}(ha:a.natAbs<=1000000000000000000)(hb:b.natAbs<=1000000000000000000)(h0:b≠0):fits (rq a b):=by
 unfold fits;rw[rq_div,Rat.num_divInt,Rat.den_divInt,if_neg h0];have h1:(b.sign*a / (Int.gcd b a:Int)).natAbs<=a.natAbs:=by
  refine Nat.le_trans (Int.natAbs_ediv_le_natAbs _ _) ?_;rw[Int.natAbs_mul];have:b.sign.natAbs<=1:=by
   rcases Int.lt_trichotomy b 0 with q|q|q
   ·rw[Int.sign_eq_neg_one_of_neg q];decide
   ·omega
   ·rw[Int.sign_eq_one_of_pos q];decide
  calc b.sign.natAbs*a.natAbs<=1*a.natAbs:=Nat.mul_le_mul_right _ this
   _=a.natAbs:=Nat.one_mul _
 have h2:b.natAbs / Int.gcd b a<=b.natAbs:=Nat.div_le_self _ _;omega
theorem rq_ne0{b:Int}(h:b≠0):(b:Rat)≠0:=fun q=>h (Rat.intCast_eq_zero_iff.1 q)
theorem rq_add{a b d:Int}(hd:d≠0):rq a d+rq b d=rq (a+b) d:=by
 have:=rq_ne0 hd;unfold rq;rw[Rat.intCast_add];grind
theorem rq_sub{a b d:Int}(hd:d≠0):rq a d-rq b d=rq (a-b) d:=by
 have:=rq_ne0 hd;unfold rq;rw[Rat.intCast_sub];grind
theorem rq_mul(l a d:Int):(l:Rat)*rq a d=rq (l*a) d:=by
 unfold rq;rw[Rat.intCast_mul];grind
theorem rq_int{l d:Int}(hd:d≠0):(l:Rat)=rq (l*d) d:=by
 have:=rq_ne0 hd;unfold rq;rw[Rat.intCast_mul];grind
theorem rq_more{a d c:Int}(hc:c≠0):rq (a*c) (d*c)=rq a d:=by
 have:=rq_ne0 hc;unfold rq;rw[Rat.intCast_mul,Rat.intCast_mul];by_cases h:(d:Rat)=0
 ·rw[h];simp[Rat.div_def,Rat.inv_zero]
 ·grind
theorem rq_eq{a b d e:Int}(hd:d≠0)(he:e≠0):rq a d=rq b e↔a*e=b*d:=by
 have h1:=rq_ne0 hd;have h2:=rq_ne0 he;rw[<-Rat.intCast_inj (a:=a*e),Rat.intCast_mul,Rat.intCast_mul];unfold rq;constructor<;>intro h<;>grind
theorem f_cross{n d z D:Int}(h:isF n d (rq z D))(hD:D≠0):n*D=z*d:=by
 have h1:=h.val;have hd:=h.den;exact(rq_eq (a:=n) (b:=z) (by omega) hD).1 h1.symm
theorem f_floor{n d z D:Int}(h:isF n d (rq z D))(hD:0<D):n / d=z / D:=by
 have hd:=h.den;have hc:=f_cross h (by omega);rw[<-Int.mul_ediv_mul_of_pos_left n d hD,hc,Int.mul_comm d D,Int.mul_ediv_mul_of_pos_left z D (by omega)]
theorem f_zero{n d z D:Int}(h:isF n d (rq z D))(hD:0<D):n=0↔z=0:=by
 have hd:=h.den;have hc:=f_cross h (by omega);constructor
 ·rintro rfl
  rw[Int.zero_mul]at hc;rcases Int.mul_eq_zero.1 hc.symm with q|q<;>omega
 ·rintro rfl
  rw[Int.zero_mul]at hc;rcases Int.mul_eq_zero.1 hc with q|q<;>omega
variable{F:Prims}{call head arith cmp scmp bnot bsame conv neg imax imin ofNat slen place inR nz geZ rd wr push next mkOK nat zeros sadd eqAgg cut slc sslc strAt part app cpy putAt fresh lowered bump wrote addN lt ne fpAll fpApp brk yn rng mget mput mnew bytes clr:_}(hA:AP F ⟨call,head,arith,cmp,scmp,bnot,bsame,conv,neg,imax,imin,ofNat,slen,place,inR,nz,geZ,rd,wr,push,next,mkOK,nat,zeros,sadd,eqAgg,cut,slc,sslc,strAt,part,app,cpy,putAt,fresh,lowered,bump,wrote,addN,lt,ne,fpAll,fpApp,brk,yn,rng,mget,mput,mnew,bytes,clr⟩)
include hA
theorem rlow_ok{h:AHeap}(hlow:h.low<=h.next){n d:Int}(hn:i64 n)(n0:-9223372036854775808<n)(hd:0<d){Q:Value->AHeap->Prop}(hQ:Q (.int .i64 (n / d)) h):call 65 [.int .i64 n,.int .i64 d] h Q:=by
 unfold i64 at hn;have t0:=Int.natAbs_tdiv_le_natAbs n d;refine hA.bodyR Try.func65 r65_ok (hA.alike _ _ _ rfl) hlow (zc ?_);have e1:arith .quo .i64 n d=n.tdiv d:=by rw[e_quo hA,wrap64 (by omega) (by omega)]
 have e2:arith .rem .i64 n d=n.tmod d:=e_rem hA _ _ _;have key:=Int.mul_tdiv_add_tmod n d;have lt1:-d<n.tmod d:=Int.lt_tmod_of_pos n hd;have lt2:n.tmod d<d:=Int.tmod_lt_of_pos n hd;generalize n.tdiv d=t at *;generalize n.tmod d=s at *;have ed:=Int.mul_ediv_add_emod n d;have m0:=Int.emod_nonneg n (show d≠0 by omega);have m1:=Int.emod_lt_of_pos n hd
 (refine zq ?_;repeat ((first|rw[e1]|rw[e2]);refine zq ?_))
 refine br (s<0) (by rw[e_lss hA]) (fun c=>?_) (fun c=>?_)<;>refine zc ?_
 ·have e3:t-1=n / d:=by
   have w:s+d+d*(t-1)=n:=by rw[Int.mul_sub,Int.mul_one];omega
   exact((Int.ediv_emod_unique hd).2 ⟨w,by omega,by omega⟩).1.symm
  have t1:-9223372036854775808<=t-1:=by omega
  refine zq ?_;rw[sub64 hA (by omega) (by omega),e3];exact hQ
 ·have e3:t=n / d:=((Int.ediv_emod_unique (r:=s) hd).2 ⟨by omega,by omega,by omega⟩).1.symm
  refine zq ?_;rw[e3];exact hQ
theorem rfloor_ok{h:AHeap}(hlow:h.low<=h.next){n d:Int}{q:Rat}(hq:isF n d q){Q:Value->AHeap->Prop}(hQ:∀h',Ext h h'->Q (.tuple #[.int .i64 (n / d),.int .i64 0]) h'):call 46 [.agg #[.int .i64 n,.int .i64 d]] h Q:=by
 have d1:=hq.den;have n1:=hq.2.2.1;rw[<-hq.1]at n1;refine hA.bodyR Try.func46 r46_ok (hA.alike _ _ _ rfl) hlow (zc ?_);refine rcheck_ok hA hlow hq.i64n hq.i64d (fun e h1 k1 x1=>⟨_,rfl,?_⟩);obtain rfl:e=0:=by
  rcases k1 with ⟨q,_⟩|⟨_,w⟩
  ·exact q
  ·exact absurd hq.ok w
 refine zq ?_;refine br False (by rw[e_neq hA];rfl) (fun q=>q.elim) (fun _=>?_)<;>refine zc ?_;refine zq ?_;refine rlow_ok hA (x1.lowOK hlow) hq.i64n (by omega) (by omega) ⟨_,rfl,?_⟩;refine zq ?_;exact hQ _ x1
theorem rmod_ok{h:AHeap}(hlow:h.low<=h.next){n d z D:Int}(hq:isF n d (rq z D))(hD:0<D)(hD2:D<=1000000000000000000){Q:Value->AHeap->Prop}(hQ:∀n' d' h',isF n' d' (rq (z % D) D)->Ext h h'->Q (.agg #[.int .i64 n',.int .i64 d']) h'):call 20 [.agg #[.int .i64 n,.int .i64 d]] h Q:=by
 have fl:=f_floor hq hD;have d1:=hq.den;have n1:=hq.2.2.1;have n2:=hq.2.2.2.1;rw[<-hq.1]at n1 n2;obtain⟨w,ew⟩:∃w,w=n / d:=⟨_,rfl⟩;have wb:-1000000000000000000<=w/\w<=1000000000000000000:=by
  have:=Int.natAbs_ediv_le_natAbs n d;rw[<-ew]at this;omega
 have hw:=isF_int wb.1 wb.2;have m0:=Int.emod_nonneg z (show D≠0 by omega);have m1:=Int.emod_lt_of_pos z hD;have ev:rq z D-(w:Rat)=rq (z % D) D:=by
  rw[ew,fl,rq_int (l:=z / D) (show D≠0 by omega),rq_sub (by omega)]
  congr 1
  have:=Int.mul_ediv_add_emod z D;rw[Int.mul_comm]at this;omega
 refine hA.bodyR Try.func20 r20_ok (hA.alike _ _ _ rfl) hlow (zc ?_);refine zq ?_;refine rfloor_ok hA hlow hq (fun h1 x1=>⟨_,_,rfl,?_⟩);rw[<-ew];obtain⟨X,eX⟩:∃z,z=bump h1 10:=⟨_,rfl⟩;have xb:Ext h1 X:=by rw[eX];exact ext_bump hA _ _
 have lX:X.low<=X.next:=(x1.trans xb).lowOK hlow;refine zq ?_;rw[<-eX];refine of_ok' hA (low_fresh hA X) ⟨_,_,rfl,?_⟩;refine zq ?_;rw[low_same hA lX];refine rsub_ok hA (low_fresh hA X) hq.i64n hq.i64d hw.i64n hw.i64d (fun a b r k h2 x2=>⟨_,_,_,rfl,?_⟩);obtain⟨k1,rfl⟩:=opIs_of hq hw (f:=(· - ·)) (by show fits (rq z D-(w:Rat));rw[ev];exact fits_rq (by omega) (by omega) (by omega)) k
 replace k1:isF a b (rq z D-(w:Rat)):=k1
 rw[ev]at k1;obtain⟨X2,eX2⟩:∃z,z=lowered X h2:=⟨_,rfl⟩;have x3:Ext h X2:=by rw[eX2];exact ext_low hA hlow (x1.trans xb) x2
 refine zq ?_;rw[<-eX2];exact hQ a b X2 k1 x3
end Go.Proofs.Ytdpbiegfljmhmaa
namespace Go.Proofs.Ytdpbiegfljmhmaa
open Go.Sim
set_option maxRecDepth 100000
variable{F:Prims}{call head arith cmp scmp bnot bsame conv neg imax imin ofNat slen place inR nz geZ rd wr push next mkOK nat zeros sadd eqAgg cut slc sslc strAt part app cpy putAt fresh lowered bump wrote addN lt ne fpAll fpApp brk yn rng mget mput mnew bytes clr:_}(hA:AP F ⟨call,head,arith,cmp,scmp,bnot,bsame,conv,neg,imax,imin,ofNat,slen,place,inR,nz,geZ,rd,wr,push,next,mkOK,nat,zeros,sadd,eqAgg,cut,slc,sslc,strAt,part,app,cpy,putAt,fresh,lowered,bump,wrote,addN,lt,ne,fpAll,fpApp,brk,yn,rng,mget,mput,mnew,bytes,clr⟩)
include hA
theorem dot_loop{h0:AHeap}(hl0:h0.low<=h0.next){L xn lc xc:Nat}{la xa:Option Addr}{l:List Int}{X:List Fc}(hl:Rows nC 1 h0 la L l)(hx:Rows fC 2 h0 xa xn X)(hL:L<=xn)(hn:L<=1000){D:Int}(hD:0<D){z:Nat->Int}(hz:∀k:Nat,k<L->isF (gt X (k:Int)).n (gt X (k:Int)).d (rq (z k) D)){B:Nat}(h9:∀k:Nat,k<L->(gt l (k:Int)).natAbs<=1000000000000000000)(hb:∀k:Nat,k<L->(gt l (k:Int)*z k).natAbs<=B)(hB:B+D.natAbs<=1000000000000000000){M:Int}(eM:M=L){Q:Exit->SS->Prop}
  (hQ:∀n d h',isF n d (rq (Ext.sumN (fun k=>gt l (k:Int)*z k) L % D) D)->Ext h0 h'->Q (.exit 0) ⟨[(4,.pointer (some ⟨0,0,some 0⟩)),(6,.pointer (some ⟨1,0,some 0⟩))],2,[(0,[.int .i64 0,.int .i64 0]),(1,[.int .i64 n,.int .i64 d])],h'⟩) :
  ∀(d k:Nat) (K sn sd:Int) (h:AHeap),L-k<=d->k<=L->K=k->isF sn sd (rq (Ext.sumN (fun k=>gt l (k:Int)*z k) k % D) D)->Ext h0 h->
   head 18 3 2 ⟨[(0,.slice la L lc),(1,.slice xa xn xc),(4,.pointer (some ⟨0,0,some 0⟩)),(6,.pointer (some ⟨1,0,some 0⟩)),(7,.int .i64 K)],2,[(0,[.int .i64 0,.int .i64 0]),(1,[.int .i64 sn,.int .i64 sd])],h⟩ Q:=by
 intro d;have e0:ofNat L=M:=by rw[eM];exact e_ofNat hA L
 induction d with
 |zero=>
  intro k K sn sd h hd hk eK hs x;refine hA.roundR Try.func18 r18_ok (zc ?_)
  (refine zq ?_;repeat ((first|rw[e0]);refine zq ?_))
  refine br (K<M) (by rw[e_lss hA]) (fun q=>by omega) (fun _=>?_)<;>refine zc ?_;obtain rfl:k=L:=by omega
  exact hQ sn sd h hs x
 |succ d ih=>
 intro k K sn sd h hd hk eK hs x;by_cases ck:k<L
 rotate_left
 ·refine hA.roundR Try.func18 r18_ok (zc ?_)
  (refine zq ?_;repeat ((first|rw[e0]);refine zq ?_))
  refine br (K<M) (by rw[e_lss hA]) (fun q=>by omega) (fun _=>?_)<;>refine zc ?_;obtain rfl:k=L:=by omega
  exact hQ sn sd h hs x
 obtain⟨X1,eX1⟩:∃z,z=bump h 16:=⟨_,rfl⟩;have xb:Ext h X1:=by rw[eX1];exact ext_bump hA _ _
 have y1:=x.trans xb;have l1:=y1.lowOK hl0;obtain⟨lb,lo,rfl,hlb,w1⟩:=(hl.ext y1).at (i:=K) (by omega) (by omega);have w1:=w1 0 1 (by omega) (by omega);obtain⟨xb',xo,rfl,hxb,w2⟩:=(hx.ext y1).at (i:=K) (by omega) (by omega);have w2:=w2 0 2 (by omega) (by omega);have zk:=hz k ck;have b9:=h9 k ck;have bb:=hb k ck;obtain⟨c,ec⟩:∃z,z=gt l (k:Int):=⟨_,rfl⟩;obtain⟨f,ef⟩:∃z,z=gt X (k:Int):=⟨_,rfl⟩;obtain⟨S,eS⟩:∃s,s=Ext.sumN (fun k=>gt l (k:Int)*z k) k:=⟨_,rfl⟩;have eS1:Ext.sumN (fun k=>gt l (k:Int)*z k) (k+1)=S+c*z k:=by rw[eS,ec];rfl
 rw[eK,<-ec]at w1;rw[eK,<-ef]at w2;rw[<-ef]at zk;rw[<-ec]at b9 bb;rw[<-eS]at hs;obtain⟨fn,fd⟩:=f;obtain⟨v,ev⟩:∃v,v=z k:=⟨_,rfl⟩;rw[<-ev]at zk bb eS1;have zk:isF fn fd (rq v D):=zk;rw[<-eK]at w1 w2;have r1:rd X1 lb (place lo K 1) 1 [.int .i64 c]:=rd_ok hA w1;have r2:rd X1 xb' (place xo K 2) 2 [.int .i64 fn,.int .i64 fd]:=rd_ok hA w2;have hc:=isF_int (n:=c) (by omega) (by omega);refine hA.roundR Try.func18 r18_ok (zc ?_)
 (refine zq ?_;repeat ((first|rw[e0]);refine zq ?_))
 refine br (K<M) (by rw[e_lss hA]) (fun _=>?_) (fun q=>by omega)<;>refine zc ?_;rw[<-eX1];refine zq ?_;refine of_ok' hA (low_fresh hA X1) ⟨_,_,rfl,?_⟩;refine zq ?_;rw[low_same hA l1];refine rmul_ok hA (low_fresh hA X1) hc.i64n hc.i64d zk.i64n zk.i64d (fun a b r q h2 x2=>⟨_,_,_,rfl,?_⟩);obtain⟨q1,rfl⟩:=opIs_of hc zk (f:=(· * ·)) (by show fits ((c:Rat)*rq v D);rw[rq_mul];exact fits_rq (by omega) (by omega) (by omega)) q
 replace q1:isF a b ((c:Rat)*rq v D):=q1
 rw[rq_mul]at q1;obtain⟨X2,eX2⟩:∃z,z=lowered X1 h2:=⟨_,rfl⟩;have y2:Ext h0 X2:=by rw[eX2];exact ext_low hA hl0 y1 x2
 have elim:addN (next h) 16=X1.next:=by rw[e_addN hA,e_next hA,eX1,e_bump hA];rfl
 have nw0:wrote X1 (fresh X1)=false:=wrote_no hA (.refl _);have nw:=wrote_no hA x2;refine zq ?_;refine⟨fp_old hA nw0 (by rw[elim];exact hxb),nw0,nw,?_⟩;rw[<-eX2];refine zq ?_;refine br ((0:Int)=0) (by rw[e_eql hA]) (fun _=>?_) (fun q=>absurd rfl q)<;>refine zc ?_;refine zq ?_;have em:=Int.emod_nonneg S (show D≠0 by omega);have em2:=Int.emod_lt_of_pos S hD;refine radd_ok hA (y2.lowOK hl0) hs.i64n hs.i64d q1.i64n q1.i64d (fun a2 b2 r2 q2 h3 x3=>⟨_,_,_,rfl,?_⟩);have eadd:rq (S % D) D+rq (c*v) D=rq (S % D+c*v) D:=rq_add (by omega);obtain⟨q3,rfl⟩:=opIs_of hs q1 (f:=(· + ·)) (by show fits (rq (S % D) D+rq (c*v) D);rw[eadd];exact fits_rq (by omega) (by omega) (by omega)) q2
 replace q3:isF a2 b2 (rq (S % D) D+rq (c*v) D):=q3
 rw[eadd]at q3;refine zq ?_;refine br ((0:Int)≠0) (by rw[e_neq hA]) (fun q=>absurd rfl q) (fun _=>?_)<;>refine zc ?_;refine zq ?_;refine rmod_ok hA (x3.lowOK (y2.lowOK hl0)) q3 hD (by omega) (fun a3 b3 h4 q4 x4=>⟨_,_,rfl,?_⟩);have eM2:(S % D+c*v) % D=(S+c*v) % D:=Int.emod_add_emod ..;rw[eM2,<-eS1]at q4;refine zq ?_;rw[add64 hA (by omega) (by omega)];exact ih (k+1) (K+1) a3 b3 h4 (by omega) (by omega) (by omega) q4 ((y2.trans x3).trans x4)
theorem rdot_ok{h:AHeap}(hlow:h.low<=h.next){L xn lc xc:Nat}{la xa:Option Addr}{l:List Int}{X:List Fc}(hl:Rows nC 1 h la L l)(hx:Rows fC 2 h xa xn X)(hL:L<=xn)(hn:L<=1000){D:Int}(hD:0<D){z:Nat->Int}(hz:∀k:Nat,k<L->isF (gt X (k:Int)).n (gt X (k:Int)).d (rq (z k) D)){B:Nat}(h9:∀k:Nat,k<L->(gt l (k:Int)).natAbs<=1000000000000000000)(hb:∀k:Nat,k<L->(gt l (k:Int)*z k).natAbs<=B)(hB:B+D.natAbs<=1000000000000000000){Q:Value->AHeap->Prop}
  (hQ:∀n d h',isF n d (rq (Ext.sumN (fun k=>gt l (k:Int)*z k) L % D) D)->Ext h h'->Q (.tuple #[.agg #[.int .i64 n,.int .i64 d],.bool true]) h'):call 18 [.slice la L lc,.slice xa xn xc] h Q:=by
 refine hA.bodyR Try.func18 r18_ok (hA.alike _ _ _ rfl) hlow (zc ?_);refine zq ?_;refine of_ok' hA hlow ⟨_,_,rfl,?_⟩;refine zq ?_;refine dot_loop hA hlow hl hx hL hn hD hz h9 hb hB (M:=(L:Int)) rfl (fun n d h' q x=>?_) L 0 0 0 1 h (by omega) (by omega) rfl ?_ (.refl h)
 ·refine zq ?_
  exact hQ n d h' q x
 ·show isF 0 1 (rq ((0:Int) % D) D)
  rw[Int.zero_emod];have e:rq 0 D=((0:Int):Rat):=by rw[rq_int (l:=0) (show D≠0 by omega),Int.zero_mul]
  rw[e];exact isF_int (by omega) (by omega)
