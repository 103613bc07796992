import Derived.Test.YtdpbiegfljmhmaaGreatFqC
import Derived.Test.YtdpbiegfljmhmaaGreatSymBits
import Derived.Test.YtdpbiegfljmhmaaGreatLsW
import Derived.Test.YtdpbiegfljmhmaaGreatMaP
import Derived.Test.YtdpbiegfljmhmaaGreatFqP
set_option linter.unusedSimpArgs false
set_option linter.unusedVariables false
namespace Go.Proofs.YtdpbiegfljmhmaaGreat
open Go.cS
set_option maxRecDepth 100000
theorem ND{D:Int}(hD:0<D):gA 0 1 (rq ((0:Int) % D) D):=by
 rw[Int.zero_emod];have e:rq 0 D=((0:Int):Rat):=by rw[jt (l:=0) (show D≠0 by omega),Int.zero_mul]
 rw[e];exact qK om om
variable{F:aZ}{call head a0 cmp b0 dH c0 d0 f0 g0 j0 ofNat l0 place n0 nz o0 rd wr push next p0 q0 r0 s0 t0 u0 v0 w0 x0 z0 a1 b1 f1 g1 j1 k1 p1 bX lt ne s1 u1 v1 yn z1 c2 d2 f2 g2 j2:_}(hA:AP F ⟨call,head,a0,cmp,b0,dH,c0,d0,f0,g0,j0,ofNat,l0,place,n0,nz,o0,rd,wr,push,next,p0,q0,r0,s0,t0,u0,v0,w0,x0,z0,a1,b1,f1,g1,j1,k1,p1,bX,lt,ne,s1,u1,v1,yn,z1,c2,d2,f2,g2,j2⟩)
include hA
theorem JS{h0:af}(fw:h0.low<=h0.next){L xn lc xc:Nat}{la xa:Option Addr}{l:List Int}{X:List Fc}(hl:Rows nC 1 h0 la L l)(hx:Rows fC 2 h0 xa xn X)(hL:L<=xn)(hn:L<=1000){D:Int}(hD:0<D){z:Nat->Int}(hz:∀k:Nat,k<L->gA (gt X (k:Int)).n (gt X (k:Int)).d (rq (z k) D)){B:Nat}(h9:∀k:Nat,k<L->(gt l (k:Int)).natAbs<=1000000000000000000)(hb:∀k:Nat,k<L->(gt l (k:Int)*z k).natAbs<=B)(hB:B+D.natAbs<=1000000000000000000){M:Int}(eM:M=L){rv:List Value}{Q:Exit->SS->Prop}
  (hQ:∀n d h',gA n d (rq (Ext.aP (fun k=>gt l (k:Int)*z k) L % D) D)->Ext h0 h'->Q (.exit 0) ⟨[(5,.pointer (some ⟨0,0,some 0⟩)),(7,.pointer (some ⟨1,0,some 0⟩))],2,[(0,rv),(1,[.int .i64 n,.int .i64 d])],h'⟩) :
  ∀(d k:Nat) (K sn sd:Int) (h:af),L-k<=d->k<=L->K=k->gA sn sd (rq (Ext.aP (fun k=>gt l (k:Int)*z k) k % D) D)->Ext h0 h->
   head 39 3 2 ⟨[(1,.slice xa xn xc),(5,.pointer (some ⟨0,0,some 0⟩)),(7,.pointer (some ⟨1,0,some 0⟩)),(14,.slice la L lc),(15,.int .i64 M),(16,.int .i64 K)],2,[(0,rv),(1,[.int .i64 sn,.int .i64 sd])],h⟩ Q:=by
 refine oG (fun d ih=>?_);intro k K sn sd h hd hk eK hs x;by_cases ck:k<L
 rotate_left
 ·refine hA.ar Tryz.func39 x39.2 (zc ?_)
  refine br (K<M) (by rw[aA hA]) (fun q=>om) (fun _=>?_)<;>refine zc ?_;obtain rfl:k=L:=om
  exact hQ sn sd h hs x
 obtain⟨d,rfl⟩:∃k,d=k+1:=⟨d-1,om⟩
 replace ih:=ih d rfl
 have aq:=x.aC fw;obtain⟨lb,lo,rfl,SU,w1⟩:=(hl.ext x).at (i:=K) om om;have w1:=w1 0 1 om om;obtain⟨SV,xo,rfl,hxb,w2⟩:=(hx.ext x).at (i:=K) om om;have w2:=w2 0 2 om om;have zk:=hz k ck;have b9:=h9 k ck;have bb:=hb k ck;obtain⟨c,ec⟩:∃z,z=gt l (k:Int):=⟨_,rfl⟩;obtain⟨f,ef⟩:∃z,z=gt X (k:Int):=⟨_,rfl⟩;obtain⟨S,eS⟩:∃s,s=Ext.aP (fun k=>gt l (k:Int)*z k) k:=⟨_,rfl⟩;have VY:Ext.aP (fun k=>gt l (k:Int)*z k) (k+1)=S+c*z k:=by rw[eS,ec];rfl
 rw[eK,<-ec]at w1;rw[eK,<-ef]at w2;rw[<-ef]at zk;rw[<-ec]at b9 bb;rw[<-eS]at hs;obtain⟨fn,fd⟩:=f;obtain⟨v,ev⟩:∃v,v=z k:=⟨_,rfl⟩;rw[<-ev]at zk bb VY;have zk:gA fn fd (rq v D):=zk;rw[<-eK]at w1 w2;have r1:rd h lb (place lo K 1) 1 [.int .i64 c]:=aD hA w1;have r2:rd h SV (place xo K 2) 2 [.int .i64 fn,.int .i64 fd]:=aD hA w2;have hc:=qK (n:=c) om om;have cn:cmp .neq (0:Int) 0=false:=by rw[bT hA];rfl
 refine hA.ar Tryz.func39 x39.2 (zc ?_);refine br (K<M) (by rw[aA hA]) (fun _=>?_) (fun q=>om)<;>refine zc ?_;refine zq ?_;refine Mi hA aq hc.kf hc.kQ zk.kf zk.kQ (fun a b r q h2 x2=>⟨_,_,_,rfl,?_⟩);obtain⟨q1,rfl⟩:=qL hc zk (f:=(· * ·)) (by show fits ((c:Rat)*rq v D);rw[uz];exact mm om om om) q
 replace q1:gA a b ((c:Rat)*rq v D):=q1
 rw[uz]at q1;have l2:=x2.aC aq
 (refine zq ?_;repeat ((first|rw[cn]);refine zq ?_))
 have em:=Int.emod_nonneg S (show D≠0 by omega);have QL:=Int.emod_lt_of_pos S hD;refine HD hA l2 hs.kf hs.kQ q1.kf q1.kQ (fun a2 b2 r2 q2 h3 x3=>⟨_,_,_,rfl,?_⟩);have MP:rq (S % D) D+rq (c*v) D=rq (S % D+c*v) D:=pY om;obtain⟨q3,rfl⟩:=qL hs q1 (f:=(· + ·)) (by show fits (rq (S % D) D+rq (c*v) D);rw[MP];exact mm om om om) q2
 replace q3:gA a2 b2 (rq (S % D) D+rq (c*v) D):=q3
 rw[MP]at q3;have l3:=x3.aC l2
 (refine zq ?_;repeat ((first|rw[cn]);refine zq ?_))
 refine M6 hA l3 q3 (fun h4 x4=>⟨_,_,rfl,?_⟩);have l4:=x4.aC l3;have fl:=wi q3 hD;have d1:=q3.den;have n1:=q3.2.2.1;have n2:=q3.2.2.2.1;rw[<-q3.1]at n1 n2;obtain⟨w,ew⟩:∃w,w=a2 / b2:=⟨_,rfl⟩;have wb:-1000000000000000000<=w/\w<=1000000000000000000:=by
  have:=Int.natAbs_ediv_le_natAbs a2 b2;rw[<-ew]at this;omega
 have hw:=qK wb.1 wb.2;obtain⟨T,eT⟩:∃t,t=S % D+c*v:=⟨_,rfl⟩;rw[<-eT]at q3 fl;have m0:=Int.emod_nonneg T (show D≠0 by omega);have m1:=Int.emod_lt_of_pos T hD;have ev:rq T D-(w:Rat)=rq (T % D) D:=by
  rw[ew,fl,jt (l:=T / D) (show D≠0 by omega),BV om]
  congr 1
  have:=Int.mul_ediv_add_emod T D;rw[Int.mul_comm]at this;omega
 rw[<-ew]
 (refine zq ?_;repeat ((first|rw[cn]);refine zq ?_))
 refine HE hA l4 q3.kf q3.kQ hw.kf hw.kQ (fun a3 b3 r3 k3 h5 x5=>⟨_,_,_,rfl,?_⟩);obtain⟨k4,rfl⟩:=qL q3 hw (f:=(· - ·)) (by show fits (rq T D-(w:Rat));rw[ev];exact mm om om om) k3
 replace k4:gA a3 b3 (rq T D-(w:Rat)):=k4
 rw[ev]at k4;have ZB:T % D=(S+c*v) % D:=by rw[eT];exact Int.emod_add_emod ..
 rw[ZB,<-VY]at k4
 (refine zq ?_;repeat ((first|rw[cn]);refine zq ?_))
 rw[aF hA om om];exact ih (k+1) (K+1) a3 b3 h5 om om om k4 ((((x.trans x2).trans x3).trans x4).trans x5)
theorem Qc{h:af}(aq:h.low<=h.next){L xn lc xc:Nat}{la xa:Option Addr}{l:List Int}{X:List Fc}(hl:Rows nC 1 h la L l)(hx:Rows fC 2 h xa xn X)(hL:L<=xn)(hn:L<=1000){D:Int}(hD:0<D){z:Nat->Int}(hz:∀k:Nat,k<L->gA (gt X (k:Int)).n (gt X (k:Int)).d (rq (z k) D)){B:Nat}(h9:∀k:Nat,k<L->(gt l (k:Int)).natAbs<=1000000000000000000)(hb:∀k:Nat,k<L->(gt l (k:Int)*z k).natAbs<=B)(hB:B+D.natAbs<=1000000000000000000){rn rd:Int}{Q:Value->af->Prop}
  (hQ:∀n d b h',gA n d (rq (Ext.aP (fun k=>gt l (k:Int)*z k) L % D) D)->(b=true↔n=rn/\d=rd)->Ext h h'->Q (.bool b) h'):call 39 [.slice la L lc,.slice xa xn xc,.agg #[.int .i64 rn,.int .i64 rd]] h Q:=by
 obtain⟨M,eM⟩:∃s:Int,s=L:=⟨_,rfl⟩;have e0:ofNat L=M:=by rw[eM];exact aI hA L
 refine hA.aN Tryz.func39 x39.2 (hA.alike _ _ _ rfl) aq (zc ?_)
 (refine zq ?_;repeat ((first|rw[e0]);refine zq ?_))
 refine JS hA aq hl hx hL hn hD hz h9 hb hB eM (fun n d h' q x=>?_) L 0 0 0 1 h om om rfl (ND hD) (.refl h);obtain⟨r,zo,EF⟩:=eqF n d rn rd;refine zq ?_;rw[qB hA];refine⟨Lt,r,zo,?_⟩;refine zq ?_;exact hQ n d r h' q EF x
theorem JT{h0:af}(fw:h0.low<=h0.next){xn xc:Nat}{xa:Option Addr}{X:List Fc}(hx:Rows fC 2 h0 xa xn X)(Ri:∀i:Int,0<=i->i<xn->i64 (gt X i).n/\i64 (gt X i).d)(x100:xn<=1000){T:List Value}{N:Int}(eN:N=xn){Q:Exit->SS->Prop}
  (fO:(∃j:Nat,j<xn/\¬ct (gt X (j:Int)))->∀env kn T h',Ext h0 h'->Q .ret ⟨(5,.int .i64 0) :: (4,.bool false) :: env,kn,T,h'⟩)
  (cW:(∀j:Nat,j<xn->ct (gt X (j:Int)))->∀h',Ext h0 h'->Q (.exit 0) ⟨[(1,.slice xa xn xc),(2,.pointer (some ⟨0,0,some 0⟩))],1,[(0,T)],h'⟩) :
  ∀(d i:Nat) (I:Int) (h:af),xn-i<=d->i<=xn->I=i->Ext h0 h->(∀j:Nat,j<i->ct (gt X (j:Int)))->
   head 16 7 1 ⟨[(1,.slice xa xn xc),(2,.pointer (some ⟨0,0,some 0⟩)),(24,.slice xa xn xc),(25,.int .i64 N),(26,.int .i64 I)],1,[(0,T)],h⟩ Q:=by
 refine oG (fun d ih=>?_);intro i I h hd hi eI x hp;by_cases ci:i<xn
 rotate_left
 ·refine hA.ar Tryz.func16 x16.2 (zc ?_)
  refine br (I<N) (by rw[aA hA]) (fun q=>om) (fun _=>?_)<;>refine zc ?_;exact cW (fun j hj=>hp j om) h x
 obtain⟨d,rfl⟩:∃k,d=k+1:=⟨d-1,om⟩
 replace ih:=ih d rfl
 have aq:=x.aC fw;obtain⟨xb,xo,rfl,_,q2⟩:=(hx.ext x).at (i:=I) om om;have q3:=q2 0 2 om om;obtain⟨i1,i2⟩:=Ri I om om;obtain⟨y,ey⟩:∃z,z=gt X I:=⟨_,rfl⟩;rw[<-ey]at q3 i1 i2;have SJ:gt X (i:Int)=y:=by rw[ey,eI]
 obtain⟨yn,yd⟩:=y;have r1:rd h xb (place xo I 2) 2 [.int .i64 yn,.int .i64 yd]:=aD hA q3;refine hA.ar Tryz.func16 x16.2 (zc ?_);refine br (I<N) (by rw[aA hA]) (fun _=>?_) (fun q=>om)<;>refine zc ?_;refine zq ?_;refine HO hA (x:=⟨yn,yd⟩) aq i1 i2 (fun b h1 hb x1=>⟨b,rfl,?_⟩);cases b with
 |false=>
  refine zq ?_;rw[show dH false=true by rw[bZ hA];rfl];refine zq ?_;exact fO ⟨i,ci,by rw[SJ];intro q;have:=hb.2 q;cases this⟩ _ _ _ h1 (x.trans x1)
 |true=>
  refine zq ?_;rw[show dH true=false by rw[bZ hA];rfl];refine zq ?_;rw[aF hA om om];refine ih (i+1) (I+1) h1 om om om (x.trans x1) (fun j hj=>?_);by_cases e:j=i
  ·rw[e,SJ];exact hb.1 rfl
  ·exact hp j om
theorem NF{h0:af}(fw:h0.low<=h0.next){m n ac bc xc:Nat}{aa ba xa:Option Addr}{dA:List Hd}{g:List (List Int)}{B X:List Fc}(hM:rV g m n)(hg:qT nC 1 h0 aa m dA g)(hB:Rows fC 2 h0 ba m B)(hx:Rows fC 2 h0 xa n X){D:Int}{z:Nat->Int}(s:Tj X n D z)(hb:∀i:Nat,i<m->ct (gt B (i:Int))){M:Int}(eM:M=m){Q:Exit->SS->Prop}
  (fO:(∃i:Nat,i<m/\¬∃c:Int,rq (Ext.aP (fun j=>Ext.el g i j*z j) n) D=vq (gt B (i:Int))+(c:Rat))->∀env kn T h',Ext h0 h'->Q .ret ⟨(5,.int .i64 0) :: (4,.bool false) :: env,kn,T,h'⟩)
  (cW:(∀i:Nat,i<m->∃c:Int,rq (Ext.aP (fun j=>Ext.el g i j*z j) n) D=vq (gt B (i:Int))+(c:Rat))->∀kn T h',Ext h0 h'->Q (.exit 2) ⟨[],kn,T,h'⟩) :
  ∀(d i:Nat) (I:Int) (h:af),m-i<=d->i<=m->I=i->Ext h0 h->(∀k:Nat,k<i->∃c:Int,rq (Ext.aP (fun j=>Ext.el g k j*z j) n) D=vq (gt B (k:Int))+(c:Rat))->
   head 16 13 1 ⟨[(1,.slice xa n xc),(2,.pointer (some ⟨0,0,some 0⟩)),(35,.slice aa m ac),(36,.int .i64 M),(37,.int .i64 I)],1,[(0,[.slice aa m ac,.slice ba m bc])],h⟩ Q:=by
 intro d
 induction d with
 |zero=>
  intro i I h hd hi eI x hp;refine hA.ar Tryz.func16 x16.2 (zc ?_);refine br (I<M) (by rw[aA hA]) (fun q=>om) (fun _=>?_)<;>refine zc ?_;exact cW (fun j hj=>hp j om) _ _ h x
 |succ d ih=>
 intro i I h hd hi eI x hp;have m4:=hM.m4;have n4:=hM.n4;by_cases ci:i<m
 rotate_left
 ·refine hA.ar Tryz.func16 x16.2 (zc ?_)
  refine br (I<M) (by rw[aA hA]) (fun q=>om) (fun _=>?_)<;>refine zc ?_;exact cW (fun j hj=>hp j om) _ _ h x
 have aq:=x.aC fw;obtain⟨lb,lo,rfl,SU,q1⟩:=(hg.ext x).mG (i:=I) om om;obtain⟨ra,era⟩:∃z,z=(gt dA I).a:=⟨_,rfl⟩;obtain⟨rc,vH⟩:∃z,z=(gt dA I).c:=⟨_,rfl⟩;have row:=(hg.ext x).row I om om;have Ef:(gt g I).length=n:=hM.row I om om;have rl:=row.len;rw[Ef]at rl;rw[<-era,<-rl]at row;rw[<-era,<-vH,<-rl]at q1;have r1:rd h lb (place lo I 1) 1 [.slice ra n rc]:=aD hA q1;obtain⟨bb,bo,rfl,_,w2⟩:=(hB.ext x).at (i:=I) om om;have w2:=w2 0 2 om om;have tf:=hb i ci;obtain⟨f,ef⟩:∃z,z=gt B I:=⟨_,rfl⟩;rw[<-ef]at w2;have Z8:gt B (i:Int)=f:=by rw[ef,eI]
 rw[Z8]at tf;obtain⟨fn,fd⟩:=f;have r2:rd h bb (place bo I 2) 2 [.int .i64 fn,.int .i64 fd]:=aD hA w2;have eg:∀j:Nat,gt (gt g I) (j:Int)=Ext.el g i j:=fun j=>by rw[eI];rfl
 refine hA.ar Tryz.func16 x16.2 (zc ?_);refine br (I<M) (by rw[aA hA]) (fun _=>?_) (fun q=>om)<;>refine zc ?_;refine zq ?_;refine Qc hA aq row (hx.ext x) (Nat.le_refl n) om s.pos (z:=z) (fun k hk=>(s.dV k hk).2.2) (B:=9000000000) (fun k hk=>by
   rw[eg];have:=hM.nine i k;unfold Ext.el;omega) (fun k hk=>by
   rw[eg];exact EA (hM.nine i k) (s.dV k hk).1 (s.dV k hk).2.1 s.dD) (by have:=s.pos;have:=s.dD;omega) (fun nn dd b h1 q uP x1=>⟨b,rfl,?_⟩)
 rw[Ext.aT n (g:=fun j=>Ext.el g i j*z j) (fun j _=>by rw[eg])]at q;have key:=P6 s.pos tf q;cases b with
 |false=>
  refine zq ?_;rw[show dH false=true by rw[bZ hA];rfl];refine zq ?_;refine fO ⟨i,ci,fun w=>?_⟩ _ _ _ h1 (x.trans x1);rw[Z8]at w;have:=uP.2 (key.2 w);cases this
 |true=>
  refine zq ?_;rw[show dH true=false by rw[bZ hA];rfl];refine zq ?_;rw[aF hA om om];refine ih (i+1) (I+1) h1 om om om (x.trans x1) (fun j hj=>?_);by_cases e:j=i
  ·rw[e,Z8];exact key.1 (uP.1 rfl)
  ·exact hp j om
theorem JU{h:af}(aq:h.low<=h.next){m n ac bc xn xc:Nat}{aa ba xa:Option Addr}{dA:List Hd}{g:List (List Int)}{B X:List Fc}(he:ju g B 0)(hM:rV g m n)(hg:qT nC 1 h aa m dA g)(hB:Rows fC 2 h ba m B)(hi:∀i:Int,0<=i->i<m->i64 (gt B i).n/\i64 (gt B i).d)(hx:Rows fC 2 h xa xn X)(Ri:∀i:Int,0<=i->i<xn->i64 (gt X i).n/\i64 (gt X i).d)(hs:xn=n->(∀j:Nat,j<n->ct (gt X (j:Int)))->∃D z,Tj X n D z){Q:Value->af->Prop}
  (hQ:∀b h',(b=true↔rY g B m n X)->Ext h h'->Q (.tuple #[.bool b,.int .i64 0]) h'):call 16 [.agg #[.slice aa m ac,.slice ba m bc],.slice xa xn xc] h Q:=by
 obtain⟨M,eM⟩:∃s:Int,s=m:=⟨_,rfl⟩;have e0:ofNat m=M:=by rw[eM];exact aI hA m
 obtain⟨N,eN⟩:∃s:Int,s=xn:=⟨_,rfl⟩;have e1:ofNat xn=N:=by rw[eN];exact aI hA xn
 obtain⟨N',eN'⟩:∃s:Int,s=n:=⟨_,rfl⟩;have e2:ofNat n=N':=by rw[eN'];exact aI hA n
 have m1:=hM.m1;have m4:=hM.m4;have n4:=hM.n4;obtain⟨gd,nm⟩:=he.qP;refine hA.aN Tryz.func16 x16.2 (hA.alike _ _ _ rfl) aq (zc ?_);refine zq ?_;refine yF hA aq hg.V9 hB hi (fun e h1 ce x1=>⟨e,rfl,?_⟩);obtain rfl:=he.uniq ce;have l1:=x1.aC aq;have cn:cmp .neq (0:Int) 0=false:=by rw[bT hA];rfl
 obtain⟨lb,lo,rfl,SU,q1⟩:=(hg.ext x1).mG (i:=0) om om;have row:=(hg.ext x1).row 0 om om;have Ef:(gt g 0).length=n:=hM.row 0 om om;have rl:=row.len;rw[Ef]at rl;rw[<-rl]at q1;have r1:rd h1 lb (place lo 0 1) 1 [.slice (gt dA 0).a n (gt dA 0).c]:=aD hA q1
 (refine zq ?_;repeat ((first|rw[cn]|rw[e0]|rw[e1]|rw[e2]);refine zq ?_))
 refine br (N≠N') (by rw[bT hA]) (fun c=>?_) (fun c=>?_)<;>refine zc ?_
 ·refine zq ?_
  exact hQ false h1 ⟨(fun q=>by cases q),fun q=>by have:=q.len;have:=hx.len;omega⟩ x1
 obtain rfl:xn=n:=om
 (refine zq ?_;repeat ((first|rw[cn]|rw[e0]|rw[e1]|rw[e2]);refine zq ?_))
 have hlen:=hx.len;refine JT hA l1 (hx.ext x1) Ri om eN (fun q env kn T h2 x2=>?_) (fun q h2 x2=>?_) xn 0 0 h1 om om rfl (.refl h1) (fun j hj=>om)
 ·refine zq ?_
  obtain⟨j,hj,q⟩:=q;exact hQ false h2 ⟨(fun q=>by cases q),fun w=>absurd (w.turn j hj) q⟩ (x1.trans x2)
 obtain⟨D,z,s⟩:=hs rfl q;have l2:=x2.aC l1;have iff:=rY.iff (g:=g) (B:=B) (m:=m) s om q
 (refine zq ?_;repeat ((first|rw[cn]|rw[e0]|rw[e1]|rw[e2]);refine zq ?_))
 refine NF hA l2 hM ((hg.ext x1).ext x2) ((hB.ext x1).ext x2) ((hx.ext x1).ext x2) s (fun i zZ=>(gd.turn i om (by have:=hB.len;omega)).1) eM (fun w env kn T h3 x3=>?_) (fun w kn T h3 x3=>?_) m 0 0 h2 om om rfl (.refl h2) (fun j hj=>om)
 ·refine zq ?_
  obtain⟨i,zZ,w⟩:=w;exact hQ false h3 ⟨(fun q=>by cases q),fun v=>absurd (iff.1 v i zZ) w⟩ ((x1.trans x2).trans x3)
 ·refine zq ?_
  exact hQ true h3 ⟨fun _=>iff.2 w,fun _=>rfl⟩ ((x1.trans x2).trans x3)
theorem NG{h0:af}(fw:h0.low<=h0.next){xn xc:Nat}{xa:Option Addr}{X:List Fc}(hx:Rows fC 2 h0 xa xn X)(Ri:∀i:Int,0<=i->i<xn->i64 (gt X i).n/\i64 (gt X i).d)(x100:xn<=1000){T:List Value}{N:Int}(eN:N=xn){Q:Exit->SS->Prop}
  (fO:∀env kn T h',Ext h0 h'->Q .ret ⟨(4,.bool true) :: env,kn,T,h'⟩)
  (cW:(∀j:Nat,j<xn->ct (gt X (j:Int))/\(gt X (j:Int)).d<=12)->∀h',Ext h0 h'->Q (.exit 0) ⟨[(1,.slice xa xn xc),(2,.pointer (some ⟨0,0,some 0⟩)),(5,.bool true)],1,[(0,T)],h'⟩) :
  ∀(d i:Nat) (I:Int) (h:af),xn-i<=d->i<=xn->I=i->Ext h0 h->(∀j:Nat,j<i->ct (gt X (j:Int))/\(gt X (j:Int)).d<=12)->
   head 4 5 1 ⟨[(1,.slice xa xn xc),(2,.pointer (some ⟨0,0,some 0⟩)),(5,.bool true),(6,.int .i64 I)],1,[(0,T)],h⟩ Q:=by
 intro d;have e0:ofNat xn=N:=by rw[eN];exact aI hA xn
 induction d with
 |zero=>
  intro i I h hd hi eI x hp;refine hA.ar Tryz.func4 rz (zc ?_)
  (refine zq ?_;repeat ((first|rw[e0]);refine zq ?_))
  refine br (I<N) (by rw[aA hA]) (fun q=>om) (fun _=>?_)<;>refine zc ?_;exact cW (fun j hj=>hp j om) h x
 |succ d ih=>
 intro i I h hd hi eI x hp;by_cases ci:i<xn
 rotate_left
 ·refine hA.ar Tryz.func4 rz (zc ?_)
  (refine zq ?_;repeat ((first|rw[e0]);refine zq ?_))
  refine br (I<N) (by rw[aA hA]) (fun q=>om) (fun _=>?_)<;>refine zc ?_;exact cW (fun j hj=>hp j om) h x
 have aq:=x.aC fw;obtain⟨xb,xo,rfl,_,q2⟩:=(hx.ext x).at (i:=I) om om;have q3:=q2 0 2 om om;obtain⟨i1,i2⟩:=Ri I om om;obtain⟨y,ey⟩:∃z,z=gt X I:=⟨_,rfl⟩;rw[<-ey]at q3 i1 i2;have SJ:gt X (i:Int)=y:=by rw[ey,eI]
 obtain⟨yn,yd⟩:=y;have r1:rd h xb (place xo I 2) 2 [.int .i64 yn,.int .i64 yd]:=aD hA q3;refine hA.ar Tryz.func4 rz (zc ?_)
 (refine zq ?_;repeat ((first|rw[e0]);refine zq ?_))
 refine br (I<N) (by rw[aA hA]) (fun _=>?_) (fun q=>om)<;>refine zc ?_;refine zq ?_;refine En hA (x:=⟨yn,yd⟩) aq i1 i2 (fun b h1 hb x1=>⟨b,rfl,?_⟩);cases b with
 |false=>
  have bf:dH false=true:=by rw[bZ hA];rfl
  (refine zq ?_;repeat ((first|rw[bf]);refine zq ?_))
  exact fO _ _ _ h1 (x.trans x1)
 |true=>
  have bt:dH true=false:=by rw[bZ hA];rfl
  obtain⟨_,_,ee,_,q5⟩:=(hx.ext (x.trans x1)).at (i:=I) om om;cases ee;have q6:=q5 1 1 om om;rw[<-ey]at q6;have r2:rd h1 xb (bX (place xo I 2) 1) 1 [.int .i64 yd]:=FY hA q6;by_cases c:yd>12
  ·have g:cmp .gtr yd 12=true:=by rw[dc hA];simp;omega
   (refine zq ?_;repeat ((first|rw[bt]|rw[g]);refine zq ?_))
   exact fO _ _ _ h1 (x.trans x1)
  ·have g:cmp .gtr yd 12=false:=by rw[dc hA];simp;omega
   (refine zq ?_;repeat ((first|rw[bt]|rw[g]);refine zq ?_))
   rw[aF hA om om];refine ih (i+1) (I+1) h1 om om om (x.trans x1) (fun j hj=>?_);by_cases e:j=i
   ·rw[e,SJ];exact⟨hb.1 rfl,by show yd<=12;omega⟩
   ·exact hp j om
theorem Qd{h0:af}(fw:h0.low<=h0.next){m n ac xc:Nat}{aa xa:Option Addr}{dA:List Hd}{g:List (List Int)}{X:List Fc}(hM:rV g m n)(hg:qT nC 1 h0 aa m dA g)(hx:Rows fC 2 h0 xa n X){D:Int}{z:Nat->Int}(s:Tj X n D z){bv:Value}{M:Int}(eM:M=m){Q:Exit->SS->Prop}
  (fO:∀env kn T h',Ext h0 h'->Q .ret ⟨(4,.bool true) :: env,kn,T,h'⟩)
  (cW:(∀i:Nat,i<m->(gt (N6 g D z n m) (i:Int)).d<=60)->∀h' a c,oD h' 2 a m c ((N6 g D z n m).flatMap fC)->Ext h0 h'->Q (.exit 2) ⟨[(1,.slice xa n xc),(5,.bool true),(7,.pointer (some ⟨1,0,some 0⟩))],2,[(0,[.slice aa m ac,bv]),(1,[.slice aa m ac,.slice a m c])],h'⟩) :
  ∀(d i:Nat) (I:Int) (h:af) (a:Option Addr) (c:Nat),m-i<=d->i<=m->I=i->Ext h0 h->(∀k:Nat,k<i->(gt (N6 g D z n m) (k:Int)).d<=60)->oD h 2 a i c ((N6 g D z n i).flatMap fC)->ky h0.next a->
   head 4 11 2 ⟨[(1,.slice xa n xc),(2,.pointer (some ⟨0,0,some 0⟩)),(5,.bool true),(7,.pointer (some ⟨1,0,some 0⟩)),(8,.int .i64 I)],2,[(0,[.slice aa m ac,bv]),(1,[.slice aa m ac,.slice a i c])],h⟩ Q:=by
 intro d;have e0:ofNat m=M:=by rw[eM];exact aI hA m
 induction d with
 |zero=>
  intro i I h a c hd hi eI x hp t fo;refine hA.ar Tryz.func4 rz (zc ?_)
  (refine zq ?_;repeat ((first|rw[e0]);refine zq ?_))
  refine br (I<M) (by rw[aA hA]) (fun q=>om) (fun _=>?_)<;>refine zc ?_;obtain rfl:i=m:=om
  exact cW hp h a c t x
 |succ d ih=>
 intro i I h a c hd hi eI x hp t fo;have m4:=hM.m4;have n4:=hM.n4;by_cases ci:i<m
 rotate_left
 ·refine hA.ar Tryz.func4 rz (zc ?_)
  (refine zq ?_;repeat ((first|rw[e0]);refine zq ?_))
  refine br (I<M) (by rw[aA hA]) (fun q=>om) (fun _=>?_)<;>refine zc ?_;obtain rfl:i=m:=om
  exact cW hp h a c t x
 have aq:=x.aC fw;obtain⟨lb,lo,rfl,SU,q1⟩:=(hg.ext x).mG (i:=I) om om;obtain⟨ra,era⟩:∃z,z=(gt dA I).a:=⟨_,rfl⟩;obtain⟨rc,vH⟩:∃z,z=(gt dA I).c:=⟨_,rfl⟩;have row:=(hg.ext x).row I om om;have Ef:(gt g I).length=n:=hM.row I om om;have rl:=row.len;rw[Ef]at rl;rw[<-era,<-rl]at row;rw[<-era,<-vH,<-rl]at q1;have r1:rd h lb (place lo I 1) 1 [.slice ra n rc]:=aD hA q1;have eg:∀j:Nat,gt (gt g I) (j:Int)=Ext.el g i j:=fun j=>by rw[eI];rfl
 have bt:dH true=false:=by rw[bZ hA];rfl
 refine hA.ar Tryz.func4 rz (zc ?_)
 (refine zq ?_;repeat ((first|rw[e0]);refine zq ?_))
 refine br (I<M) (by rw[aA hA]) (fun _=>?_) (fun q=>om)<;>refine zc ?_;refine zq ?_;refine PB hA aq row (hx.ext x) (Nat.le_refl n) om s.pos (z:=z) (fun k hk=>(s.dV k hk).2.2) (B:=9000000000) (fun k hk=>by
   rw[eg];have:=hM.nine i k;unfold Ext.el;omega) (fun k hk=>by
   rw[eg];exact EA (hM.nine i k) (s.dV k hk).1 (s.dV k hk).2.1 s.dD) (by have:=s.pos;have:=s.dD;omega) (fun nn dd h1 q x1=>⟨_,_,_,rfl,?_⟩)
 rw[Ext.aT n (g:=fun j=>Ext.el g i j*z j) (fun j _=>by rw[eg])]at q;have ef:(⟨nn,dd⟩:Fc)=fr (Ext.aP (fun j=>Ext.el g i j*z j) n % D) D:=M0 q.1 q.2.1;have dV:=GG g D z n ci;have es:=Nx g D z n i;rw[<-ef]at dV es;have t1:=t.ext x1;by_cases c60:dd>60
 ·have gr:cmp .gtr dd 60=true:=by rw[dc hA];simp;omega
  (refine zq ?_;repeat ((first|rw[bt]|rw[gr]);refine zq ?_))
  exact fO _ _ _ h1 (x.trans x1)
 have gr:cmp .gtr dd 60=false:=by rw[dc hA];simp;omega
 (refine zq ?_;repeat ((first|rw[bt]|rw[gr]);refine zq ?_))
 refine HY hA TFr B5 om Q7 (v:=(⟨nn,dd⟩:Fc)) t1 om (fun a' c' h4 t4 x4=>?_);rw[<-es]at t4;obtain⟨x5,f5⟩:=x4 h0 (x.trans x1) fo;obtain⟨i1,MX⟩:∃z,z=i+1:=⟨_,rfl⟩;rw[<-MX]at t4 ⊢
 (refine zq ?_;repeat ((first|rw[bt]);refine zq ?_))
 rw[aF hA om om];refine ih i1 (I+1) h4 a' c' om om om x5 (fun k hk=>?_) t4 f5;by_cases e:k=i
 ·rw[e,dV];show dd<=60;omega
 ·exact hp k om
theorem NH{h0:af}(fw:h0.low<=h0.next){n N lc xc:Nat}{la xa:Option Addr}{lh:List Hd}{L:List (List Fc)}{X:List Fc}(n4:n<=4)(gl:qT fC 2 h0 la N lh L)(N64:N<=64)(hlen:∀j:Nat,j<N->(gt L (j:Int)).length=n)(hx:Rows fC 2 h0 xa n X){k0:Nat}(hk:∀j:Nat,j<N->(gt L (j:Int)=X↔j=k0)){M e:Int}(eM:M=N){kn:Nat}{K:List (Nat×List Value)}{Q:Exit->SS->Prop}
  (hQ:∀h' c,c=(if N<=k0 then 0 else 1:Int)->Ext h0 h'->∀kn K,Q (.exit 4) ⟨[(5,.bool true),(16,.int .i64 e),(17,.int .i64 c)],kn,K,h'⟩) :
  ∀(d j:Nat) (J c:Int) (h:af),N-j<=d->j<=N->J=j->c=(if j<=k0 then 0 else 1:Int)->Ext h0 h->
   head 4 24 kn ⟨[(1,.slice xa n xc),(5,.bool true),(15,.slice la N lc),(16,.int .i64 e),(17,.int .i64 c),(18,.int .i64 J)],kn,K,h⟩ Q:=by
 intro d;have e0:ofNat N=M:=by rw[eM];exact aI hA N
 induction d with
 |zero=>
  intro j J c h hd hj eJ ec x;refine hA.ar Tryz.func4 rz (zc ?_)
  (refine zq ?_;repeat ((first|rw[e0]);refine zq ?_))
  refine br (J<M) (by rw[aA hA]) (fun q=>om) (fun _=>?_)<;>refine zc ?_;obtain rfl:j=N:=om
  exact hQ h c ec x _ _
 |succ d ih=>
 intro j J c h hd hj eJ ec x;by_cases cj:j<N
 rotate_left
 ·refine hA.ar Tryz.func4 rz (zc ?_)
  (refine zq ?_;repeat ((first|rw[e0]);refine zq ?_))
  refine br (J<M) (by rw[aA hA]) (fun q=>om) (fun _=>?_)<;>refine zc ?_;obtain rfl:j=N:=om
  exact hQ h c ec x _ _
 have aq:=x.aC fw;obtain⟨lb,lo,rfl,SU,q1⟩:=(gl.ext x).mG (i:=J) om om;obtain⟨ra,era⟩:∃z,z=(gt lh J).a:=⟨_,rfl⟩;obtain⟨rc,vH⟩:∃z,z=(gt lh J).c:=⟨_,rfl⟩;have row:=(gl.ext x).row J om om;have rl:=row.len;have hl:=hlen j cj;rw[<-eJ]at hl;rw[hl]at rl;rw[<-era,<-rl]at row;rw[<-era,<-vH,<-rl]at q1;have r1:rd h lb (place lo J 1) 1 [.slice ra n rc]:=aD hA q1;refine hA.ar Tryz.func4 rz (zc ?_)
 (refine zq ?_;repeat ((first|rw[e0]);refine zq ?_))
 refine br (J<M) (by rw[aA hA]) (fun _=>?_) (fun q=>om)<;>refine zc ?_;refine zq ?_;obtain⟨X1,PA⟩:∃z,z=push h 1 [.slice ra n rc]:=⟨_,rfl⟩;rw[<-PA];obtain⟨X2,MN⟩:∃z,z=push X1 1 [.slice xa n xc]:=⟨_,rfl⟩;rw[<-MN];rw[df hA]at PA MN;rw[cM hA,cM hA];have x1:Ext h X1:=by rw[PA];exact Ext.push h 1 _
 have x2:Ext X1 X2:=by rw[MN];exact Ext.push X1 1 _
 have o1:Rows Hd.cells 1 X2 (some ⟨h.next,0,none⟩) 1 [⟨ra,n,rc⟩]:=by
  have o:bW X1 h.next 1 [.slice ra n rc]:=by rw[PA];exact bW.push h 1 _
  have lt:h.next<X1.next:=by rw[PA];simp[af.push]
  exact(bW.rows (l:=[(⟨ra,n,rc⟩:Hd)]) o gJ om lt).ext x2
 have o2:Rows Hd.cells 1 X2 (some ⟨X1.next,0,none⟩) 1 [⟨xa,n,xc⟩]:=by
  have o:bW X2 X1.next 1 [.slice xa n xc]:=by rw[MN];exact bW.push X1 1 _
  have lt:X1.next<X2.next:=by rw[MN];simp[af.push]
  exact bW.rows (l:=[(⟨xa,n,xc⟩:Hd)]) o gJ om lt
 have y2:=x1.trans x2;refine Qa hA (y2.aC aq) o1 o2 (row.ext y2) ((hx.ext x).ext y2) om (fun r h3 hr x3=>⟨_,rfl,?_⟩);have y3:=x.trans (y2.trans x3);have key:=hk j cj;rw[<-eJ]at key;cases r with
 |true=>
  obtain rfl:=key.1 (hr.1 rfl);refine zq ?_;rw[aF hA (by rw[if_pos (Nat.le_refl j)]at ec;omega) (by rw[if_pos (Nat.le_refl j)]at ec;omega),aF hA om om];exact ih (j+1) (J+1) (c+1) h3 om om om (by rw[if_pos (Nat.le_refl j)]at ec;rw[if_neg om];omega) y3
 |false=>
  have ne:j≠k0:=fun q=>by have:=hr.2 (key.2 q);cases this
  refine zq ?_;rw[aF hA om om];refine ih (j+1) (J+1) c h3 om om om ?_ y3;rw[ec];by_cases q:j<=k0
  ·rw[if_pos q,if_pos om]
  ·rw[if_neg q,if_neg om]
set_option maxHeartbeats 2000000 in
theorem NJ(hF:∀h,F 5 [] h=some (.bool true,h))(hI:rT F){h:af}(aq:h.low<=h.next){m ac k bc xn xc:Nat}{aa ba xa:Option Addr}{dA:List Hd}{g:List (List Int)}{B X:List Fc}(hg:zb nC 1 h aa m dA g)(hB:Rows fC 2 h ba k B)(hm:m<=maxLen)(hk:k<=maxLen)(hi:∀i:Int,0<=i->i<k->i64 (gt B i).n/\i64 (gt B i).d)(hx:Rows fC 2 h xa xn X)(hn:xn<=maxLen)(Ri:∀i:Int,0<=i->i<xn->i64 (gt X i).n/\i64 (gt X i).d){Q:Value->af->Prop}
  (hQ:∀h',Ext h h'->Q (.bool true) h'):call 4 [.agg #[.slice aa m ac,.slice ba k bc],.slice xa xn xc] h Q:=by
 have cn:cmp .neq (0:Int) 0=false:=by rw[bT hA];rfl
 have bt:dH true=false:=by rw[bZ hA];rfl
 refine hA.aN Tryz.func4 rz (hA.alike _ _ _ rfl) aq (zc ?_);refine zq ?_;refine hA.K9 (hF h) ⟨_,rfl,?_⟩;refine zq ?_;refine JA hA aq hg hB hi (fun e h1 he x1=>⟨e,rfl,?_⟩);by_cases ez:e=0
 rotate_left
 ·have c1:cmp .neq e 0=true:=by rw[bT hA];simp[ez]
  (refine zq ?_;repeat ((first|rw[c1]);refine zq ?_))
  exact hQ h1 x1
 subst ez;obtain⟨gd,nm⟩:=he.qP;obtain⟨m',n,hM⟩:=gd.Zy nm;obtain rfl:m=m':=by have:=hg.len;have:=hM.len;omega
 have A4:=hg.full (fun y y0 y1=>by rw[hM.row y y0 y1];exact hM.n1);have m1:=hM.m1;have m4:=hM.m4;have n4:=hM.n4;have l1:=x1.aC aq;obtain⟨lb,lo,rfl,SU,q1⟩:=(A4.ext x1).mG (i:=0) om om;have row:=(A4.ext x1).row 0 om om;have Ef:(gt g 0).length=n:=hM.row 0 om om;have rl:=row.len;rw[Ef]at rl;obtain⟨ra,era⟩:∃z,z=(gt dA 0).a:=⟨_,rfl⟩;obtain⟨rc,vH⟩:∃z,z=(gt dA 0).c:=⟨_,rfl⟩;rw[<-rl,<-era,<-vH]at q1;have r1:rd h1 lb (place lo 0 1) 1 [.slice ra n rc]:=aD hA q1;obtain⟨Nn,Z7⟩:∃z:Int,z=n:=⟨_,rfl⟩;have e1:ofNat n=Nn:=by rw[Z7];exact aI hA n
 obtain⟨Xn,eXn⟩:∃z:Int,z=xn:=⟨_,rfl⟩;have e2:ofNat xn=Xn:=by rw[eXn];exact aI hA xn
 by_cases en:xn=n
 rotate_left
 ·have c1:cmp .neq Xn Nn=true:=by rw[bT hA];simp;omega
  (refine zq ?_;repeat ((first|rw[cn]|rw[e1]|rw[e2]|rw[c1]);refine zq ?_))
  exact hQ h1 x1
 subst en;obtain rfl:Xn=Nn:=om
 have c1:cmp .neq Xn Xn=false:=by rw[bT hA];simp
 have hlen:=hx.len
 (refine zq ?_;repeat ((first|rw[cn]|rw[e2]|rw[c1]|rw[bt]);refine zq ?_))
 refine NG hA l1 (hx.ext x1) Ri om eXn (fun env kn T h' x'=>?_) (fun ht h2 x2=>?_) xn 0 0 h1 om om rfl (.refl h1) (fun j hj=>om)
 ·refine zq ?_
  exact hQ h' (x1.trans x')
 have l2:=x2.aC l1;have y2:=x1.trans x2;have s:=WE ht;refine zq ?_;refine Qd hA l2 hM (A4.ext y2) (hx.ext y2) s (M:=(m:Int)) rfl (fun env kn T h' x'=>?_) (fun h60 h3 a c t x3=>?_) m 0 0 h2 none 0 om om rfl (.refl h2) (fun j hj=>om) (.nil _ _) (.none _)
 ·refine zq ?_
  exact hQ h' (y2.trans x')
 have l3:=x3.aC l2;have y3:=y2.trans x3;obtain⟨B',XP⟩:∃z,z=N6 g 27720 (Z3 X) xn m:=⟨_,rfl⟩;have lB':B'.length=m:=by rw[XP];exact bN _ _
 have XQ:rY g B' m xn X:=by rw[XP];exact P7 s hlen (fun j hj=>(ht j hj).1)
 have NP:∀i:Int,0<=i->i<m->ct (gt B' i)/\(gt B' i).d<=60:=fun i i0 i1=>by
  obtain⟨j,rfl⟩:∃j:Nat,i=j:=⟨i.toNat,om⟩;rw[XP];exact⟨Nv s.pos s.dD om,h60 j om⟩
 have zZ:∀i:Int,0<=i->i<m->i64 (gt B' i).n/\i64 (gt B' i).d:=fun i i0 i1=>by
  have:=(NP i i0 i1).1.is;exact⟨this.kf,this.kQ⟩
 have Z9:ju g B' 0:=hM.chk lB' NP;rw[<-XP]at t;have rB:Rows fC 2 h3 a m B':=⟨t.cells,B5,om⟩;refine zq ?_;refine Ep hA hI l3 (hg.ext y3) rB zZ (fun e' h' c' ne _=>absurd (Z9.uniq c').symm ne) (fun b h4 n' c' zY hb x4=>⟨_,_,rfl,?_⟩);obtain⟨_,rfl⟩:=hM.uniq zY;obtain rfl:b=true:=hb.2 (XQ.PG NP);have l4:=x4.aC l3;have y4:=y3.trans x4;refine zq ?_;refine JU hA l4 Z9 hM (A4.ext y4) (rB.ext x4) zZ (hx.ext y4) Ri (fun _ _=>⟨_,_,s⟩) (fun b h5 hb x5=>⟨_,_,rfl,?_⟩);obtain rfl:b=true:=hb.2 XQ;have l5:=x5.aC l4;have y5:=y4.trans x5;refine zq ?_;refine Qb hA hI l5 Z9 hM (A4.ext y5) (rB.ext (x4.trans x5)) zZ (fun ea L hs h6 N lc la lh av xs L1=>⟨_,_,_,_,rfl,?_⟩);have x6:=xs.trans L1.ext;have l6:=x6.aC l5;have y6:=y5.trans x6;have WL:=L1.gr.len;have n6:ea≠6:=fun q=>by
  rcases av with ⟨w,_⟩|⟨w|⟨_,r,_,w|w⟩,_⟩
  ·omega
  ·exact w.1 (XQ.PG NP)
  ·omega
  ·omega
 have c6:cmp .eql ea 6=false:=by rw[de hA];simp[n6]
 (refine zq ?_;repeat ((first|rw[cn]|rw[bt]|rw[c6]);refine zq ?_))
 rcases av with ⟨e0,ag⟩|⟨ae,eL⟩
 ·subst e0
  obtain⟨k0,hk0,pl⟩:=ag.all.place XQ;have gn:=ag.gn;have alen:=ag.len;refine NH hA l6 n4 L1.gr om (fun j hj=>((ag.all.mem _).1 (BH L om om)).len) (hx.ext y6) (fun j hj=>pl j om) (M:=(N:Int)) rfl (fun h7 c' ec' x7 kn K=>?_) N 0 0 0 h6 om om rfl (by rw[if_pos (Nat.zero_le k0)]) (.refl h6);rw[if_neg om]at ec';have c1:cmp .eql c' 1=true:=by rw[de hA];simp[ec']
  (refine zq ?_;repeat ((first|rw[cn]|rw[c1]);refine zq ?_))
  exact hQ h7 (y6.trans x7)
 ·have ne:=ae.ne
  obtain rfl:N=0:=by rw[eL]at WL;exact WL.symm
  refine NH hA l6 n4 L1.gr om (fun j hj=>om) (hx.ext y6) (k0:=0) (fun j hj=>om) (M:=((0:Nat):Int)) rfl (fun h7 c' ec' x7 kn K=>?_) 0 0 0 0 h6 om om rfl rfl (.refl h6);have c1:cmp .neq ea 0=true:=by rw[bT hA];simp[ne]
  (refine zq ?_;repeat ((first|rw[c1]);refine zq ?_))
  exact hQ h7 (y6.trans x7)
