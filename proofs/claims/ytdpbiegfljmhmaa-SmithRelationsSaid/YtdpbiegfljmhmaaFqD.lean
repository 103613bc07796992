import Derived.Test.YtdpbiegfljmhmaaDetI
import Derived.Test.YtdpbiegfljmhmaaSmW
import Derived.Test.YtdpbiegfljmhmaaFqB
set_option linter.unusedSimpArgs false
set_option linter.unusedVariables false
namespace Go.Proofs.Ytdpbiegfljmhmaa
open Go.Sim
set_option maxRecDepth 100000
theorem invL_succ(g:List (List Int))(m n r:Nat):invL g m n (r+1)=invL g m n r++[((Ext.Dv g m n (r+1) / Ext.Dv g m n r:Nat):Int)]:=lst_succ _ _
theorem InvR.pos{g:List (List Int)}{m n r:Nat}(h:InvR g m n r){k:Nat}(hk:k<=r):Ext.Dv g m n k≠0:=by
 cases k with
 |zero=>rw[Ext.Dv_zero];decide
 |succ k=>exact h.nz k (by omega)
variable{F:Prims}{call head arith cmp scmp bnot bsame conv neg imax imin ofNat slen place inR nz geZ rd wr push next mkOK nat zeros sadd eqAgg cut slc sslc strAt part app cpy putAt fresh lowered bump wrote addN lt ne fpAll fpApp brk yn rng mget mput mnew bytes clr:_}(hA:AP F ⟨call,head,arith,cmp,scmp,bnot,bsame,conv,neg,imax,imin,ofNat,slen,place,inR,nz,geZ,rd,wr,push,next,mkOK,nat,zeros,sadd,eqAgg,cut,slc,sslc,strAt,part,app,cpy,putAt,fresh,lowered,bump,wrote,addN,lt,ne,fpAll,fpApp,brk,yn,rng,mget,mput,mnew,bytes,clr⟩)
include hA
theorem iv_loop{h0:AHeap}(hl0:h0.low<=h0.next){m n r k b c n1 c1 n2 c2:Nat}{a1 a2:Option Addr}{g:List (List Int)}(hM:Mat g m n)(ir:InvR g m n r)(ek:k=r+1)(B:Bld h0 1 b k c ((dvL g m n k).flatMap nC)){N:Int}(eN:N=k){Q:Exit->SS->Prop}
  (hQ:∀(h':AHeap) qa qc kn T,Apd h' 1 qa r qc ((invL g m n r).flatMap nC)->From h0.next qa->Ext h0 h'->Q (.exit 0) ⟨[(6,.slice qa r qc)],kn,T,h'⟩) :
  ∀(d i:Nat) (K:Int) (h:AHeap) (qa:Option Addr) (qc:Nat),r-i<=d->i<=r->K=i+1->Apd h 1 qa i qc ((invL g m n i).flatMap nC)->From h0.next qa->Ext h0 h->
   head 8 7 1 ⟨[(5,.slice (some ⟨b,0,none⟩) k c),(6,.slice qa i qc),(7,.int .i64 K)],1,[(0,[.slice a1 n1 c1,.slice a2 n2 c2])],h⟩ Q:=by
 intro d;have rm:=ir.lm;have m4:=hM.m4;have e1:ofNat k=N:=by rw[eN];exact e_ofNat hA k
 induction d with
 |zero=>
  intro i K h qa qc hd hi eK t hf x;refine hA.roundR Try.func8 r8_ok (zc ?_)
  (refine zq ?_;repeat ((first|rw[e1]);refine zq ?_))
  refine br (K<N) (by rw[e_lss hA]) (fun q=>by omega) (fun _=>?_)<;>refine zc ?_;obtain rfl:i=r:=by omega
  exact hQ h qa qc _ _ t hf x
 |succ d ih=>
 intro i K h qa qc hd hi eK t hf x;by_cases ci:i<r
 rotate_left
 ·refine hA.roundR Try.func8 r8_ok (zc ?_)
  (refine zq ?_;repeat ((first|rw[e1]);refine zq ?_))
  refine br (K<N) (by rw[e_lss hA]) (fun q=>by omega) (fun _=>?_)<;>refine zc ?_;obtain rfl:i=r:=by omega
  exact hQ h qa qc _ _ t hf x
 obtain⟨h9,hh9⟩:∃z,z=bump h 14:=⟨_,rfl⟩;have x9:Ext h h9:=by rw[hh9];exact ext_bump hA _ _
 have e9:=x.trans x9;have B9:=B.ext e9;have R9:=Own.rows B9.own nC_len (by omega) B9.lt;rw[show(dvL g m n k).length=k from lst_len _ _]at R9;have nzx:=ir.pos (k:=i+1) (by omega);have nzy:=ir.pos (k:=i) (by omega);have lx:=Ext.Dv_le hM.nine m n (i+1);have ly:=Ext.Dv_le hM.nine m n i;have es:=invL_succ g m n i;obtain⟨x1,ex1⟩:∃z:Int,z=Ext.Dv g m n (i+1):=⟨_,rfl⟩;obtain⟨y1,ey1⟩:∃z:Int,z=Ext.Dv g m n i:=⟨_,rfl⟩;obtain⟨q,eq⟩:∃z:Int,z=((Ext.Dv g m n (i+1) / Ext.Dv g m n i:Nat):Int):=⟨_,rfl⟩;rw[<-eq]at es;have eq2:q=x1 / y1:=by rw[eq,ex1,ey1];push_cast;rfl
 obtain⟨K1,eK1⟩:∃z:Int,z=K-1:=⟨_,rfl⟩;have m0:arith .sub .i64 K 1=K1:=by rw[eK1];exact sub64 hA (by omega) (by omega)
 have m1:arith .quo .i64 x1 y1=q:=by rw[eq2];exact quo64 hA (by omega) (by omega) (by omega)
 have gx:gt (dvL g m n k) K=x1:=by
  have:=lst_gt (fun x=>(Ext.Dv g m n x:Int)) (n:=k) (i:=i+1) (by omega);rw[ex1,eK,show((i:Int)+1)=((i+1:Nat):Int) by omega];exact this
 have gy:gt (dvL g m n k) K1=y1:=by
  have:=lst_gt (fun x=>(Ext.Dv g m n x:Int)) (n:=k) (i:=i) (by omega);rw[ey1,eK1,eK,show((i:Int)+1-1)=(i:Int) by omega];exact this
 obtain⟨b',o',e',_,q1⟩:=R9.at (i:=K) (by omega) (by omega);cases e';have q1:=q1 0 1 (by omega) (by omega);obtain⟨b',o',e',_,q2⟩:=R9.at (i:=K1) (by omega) (by omega);cases e';have q2:=q2 0 1 (by omega) (by omega);rw[gx]at q1;rw[gy]at q2;have r1:rd h9 b (place 0 K 1) 1 [.int .i64 x1]:=rd_ok hA q1;have r2:rd h9 b (place 0 K1 1) 1 [.int .i64 y1]:=rd_ok hA q2;refine hA.roundR Try.func8 r8_ok (zc ?_)
 (refine zq ?_;repeat ((first|rw[e1]);refine zq ?_))
 refine br (K<N) (by rw[e_lss hA]) (fun _=>?_) (fun q=>by omega)<;>refine zc ?_;refine zq ?_;rw[<-hh9]
 (refine zq ?_;repeat ((first|rw[m0]|rw[m1]);refine zq ?_))
 refine appD_ok hA TI1 nC_len (by omega) nC_ok hl0 x (by omega) hh9 (v:=q) t hf (by omega) (fun a' c' h' hp' hf' x'=>?_);obtain⟨hZ,hhZ⟩:∃z,z=lowered (putAt h9 (addN (next h) 11) 1 (nC q)) h':=⟨_,rfl⟩;rw[<-hhZ]at hp' x';have hhZ':hZ=lowered (putAt h9 (addN (next h) 11) 1 [.int .i64 q]) h':=hhZ;rw[<-es]at hp';obtain⟨i1,ei1⟩:∃z,z=i+1:=⟨_,rfl⟩;rw[<-ei1]at hp' ⊢;refine zc ?_;rw[<-hhZ'];refine zq ?_;rw[add64 hA (by omega) (by omega)];exact ih i1 (K+1) hZ a' c' (by omega) (by omega) (by omega) hp' hf' x'
theorem Invariants_ok{h:AHeap}(hlow:h.low<=h.next){m ac k bc:Nat}{aa ba:Option Addr}{hds:List Hd}{g:List (List Int)}{B:List Fc}(hg:GrN nC 1 h aa m hds g)(hB:Rows fC 2 h ba k B)(hi:∀i:Int,0<=i->i<k->i64 (gt B i).n/\i64 (gt B i).d){Q:Value->AHeap->Prop}
  (hQ0:∀e h',ChkIs g B e->e≠0->Ext h h'->Q (.tuple #[.slice none 0 0,.int .i64 e]) h')
  (hQ1:∀h' n r qa qc,ChkIs g B 0->Mat g m n->Ext h h'->InvR g m n r->Apd h' 1 qa r qc ((invL g m n r).flatMap nC)->Q (.tuple #[.slice qa r qc,.int .i64 0]) h'):call 8 [.agg #[.slice aa m ac,.slice ba k bc]] h Q:=by
 refine hA.bodyR Try.func8 r8_ok (hA.alike _ _ _ rfl) hlow (zc ?_);refine Check_ok hA hlow hg hB hi (fun e h1 he x1=>⟨e,rfl,?_⟩);refine zq ?_;refine br (e≠0) (by rw[e_neq hA]) (fun c=>?_) (fun c=>?_)<;>refine zc ?_
 ·refine zq ?_
  exact hQ0 e h1 he c x1
 obtain rfl:e=0:=by omega
 obtain⟨gd,nm⟩:=he.good;obtain⟨m',n,hM⟩:=gd.mat nm;obtain rfl:m=m':=by have:=hg.len;have:=hM.len;omega
 have hgf:=hg.full (fun y y0 y1=>by rw[hM.row y y0 y1];exact hM.n1);refine zq ?_;refine divisors_ok hA (x1.lowOK hlow) hM (hgf.ext x1) (fun h2 b k2 c2 r ek ir B2 x2=>⟨_,_,_,rfl,?_⟩);obtain⟨N,eN⟩:∃z:Int,z=k2:=⟨_,rfl⟩;refine zq ?_;refine iv_loop hA (x2.lowOK (x1.lowOK hlow)) hM ir ek B2 eN (fun h' qa qc kn T t hf x=>?_) r 0 1 h2 none 0 (by omega) (by omega) rfl (.nil _ _) (.none _) (.refl _);refine zq ?_;exact hQ1 h' n r qa qc he hM ((x1.trans x2).trans x) ir t
end Go.Proofs.Ytdpbiegfljmhmaa
namespace Go.Proofs.Ytdpbiegfljmhmaa
open Go.Sim
set_option maxRecDepth 100000
variable{F:Prims}{call head arith cmp scmp bnot bsame conv neg imax imin ofNat slen place inR nz geZ rd wr push next mkOK nat zeros sadd eqAgg cut slc sslc strAt part app cpy putAt fresh lowered bump wrote addN lt ne fpAll fpApp brk yn rng mget mput mnew bytes clr:_}(hA:AP F ⟨call,head,arith,cmp,scmp,bnot,bsame,conv,neg,imax,imin,ofNat,slen,place,inR,nz,geZ,rd,wr,push,next,mkOK,nat,zeros,sadd,eqAgg,cut,slc,sslc,strAt,part,app,cpy,putAt,fresh,lowered,bump,wrote,addN,lt,ne,fpAll,fpApp,brk,yn,rng,mget,mput,mnew,bytes,clr⟩)
include hA
theorem sum_loop{h:AHeap}{n k nc kc:Nat}{ba pa:Option Addr}{b p:List Int}(hb:Rows nC 1 h ba n b)(hp:Rows nC 1 h pa k p)(hk:k<=n)(k4:k<=1000){B:Nat}(hB:∀i:Nat,i<k->(gt b (i:Int)*gt p (i:Int)).natAbs<=B)(hB2:k*B<=4000000000000000000){W M:Int}(eM:M=k){Q:Exit->SS->Prop}
  (hQ:∀t kn T,t=Ext.sumN (fun i=>gt b (i:Int)*gt p (i:Int)) k->t.natAbs<=k*B->Q (.exit 0) ⟨[(2,.int .i64 W),(7,.int .i64 t)],kn,T,h⟩) :
  ∀(d i:Nat) (I t:Int),k-i<=d->i<=k->I=i->t=Ext.sumN (fun i=>gt b (i:Int)*gt p (i:Int)) i->t.natAbs<=i*B->
   head 62 3 0 ⟨[(0,.slice ba n nc),(2,.int .i64 W),(7,.int .i64 t),(10,.slice pa k kc),(11,.int .i64 M),(12,.int .i64 I)],0,[],h⟩ Q:=by
 refine upTo (fun d ih=>?_);intro i I t hd hi eI et bt;by_cases ci:i<k
 rotate_left
 ·refine hA.roundR Try.func62 r62_ok (zc ?_)
  refine br (I<M) (by rw[e_lss hA]) (fun q=>by omega) (fun _=>?_)<;>refine zc ?_;obtain rfl:i=k:=by omega
  exact hQ t _ _ et bt
 obtain⟨d,rfl⟩:∃k,d=k+1:=⟨d-1,by omega⟩
 replace ih:=ih d rfl
 obtain⟨bb,bo,rfl,_,w1⟩:=hb.at (i:=I) (by omega) (by omega);have w1:=w1 0 1 (by omega) (by omega);obtain⟨pb,po,rfl,_,w2⟩:=hp.at (i:=I) (by omega) (by omega);have w2:=w2 0 1 (by omega) (by omega);have b1:=hB i ci;obtain⟨x,ex⟩:∃s,s=gt b (i:Int):=⟨_,rfl⟩;obtain⟨y,ey⟩:∃s,s=gt p (i:Int):=⟨_,rfl⟩;rw[eI,<-ex,<-eI]at w1;rw[eI,<-ey,<-eI]at w2;rw[<-ex,<-ey]at b1;have r1:rd h bb (place bo I 1) 1 [.int .i64 x]:=rd_ok hA w1;have r2:rd h pb (place po I 1) 1 [.int .i64 y]:=rd_ok hA w2;have h1:(i+1)*B<=k*B:=Nat.mul_le_mul_right _ ci;rw[Nat.add_mul]at h1;obtain⟨u,eu⟩:∃s,s=x*y:=⟨_,rfl⟩;rw[<-eu]at b1;have m1:arith .mul .i64 x y=u:=by rw[eu];exact mul64 hA (by rw[<-eu];omega) (by rw[<-eu];omega)
 obtain⟨t2,et2⟩:∃s,s=t+u:=⟨_,rfl⟩;have m2:arith .add .i64 t u=t2:=by clear et;rw[et2];exact add64 hA (by omega) (by omega)
 have bt2:t2.natAbs<=(i+1)*B:=by clear et;rw[Nat.add_mul];omega
 have et3:t2=Ext.sumN (fun i=>gt b (i:Int)*gt p (i:Int)) (i+1):=by
  show t2=Ext.sumN (fun i=>gt b (i:Int)*gt p (i:Int)) i+gt b (i:Int)*gt p (i:Int);rw[et2,et,eu,ex,ey]
 refine hA.roundR Try.func62 r62_ok (zc ?_);refine br (I<M) (by rw[e_lss hA]) (fun _=>?_) (fun q=>by omega)<;>refine zc ?_
 (refine zq ?_;repeat ((first|rw[m1]|rw[m2]);refine zq ?_))
 rw[add64 hA (by omega) (by omega)];exact ih (i+1) (I+1) t2 (by omega) (by omega) (by omega) et3 bt2
theorem ssum_ok{h:AHeap}(hlow:h.low<=h.next){n k nc kc:Nat}{ba pa:Option Addr}{b p:List Int}(hb:Rows nC 1 h ba n b)(hp:Rows nC 1 h pa k p)(hk:k<=n)(k4:k<=1000){B:Nat}(hB:∀i:Nat,i<k->(gt b (i:Int)*gt p (i:Int)).natAbs<=B)(hB2:k*B<=4000000000000000000){W:Int}(hW:0<W)(hW2:W<=4000000000000000000){Q:Value->AHeap->Prop}
  (hQ:∀v,v=Ext.sumN (fun i=>gt b (i:Int)*gt p (i:Int)) k % W->Q (.int .i64 v) h):call 62 [.slice ba n nc,.slice pa k kc,.int .i64 W] h Q:=by
 obtain⟨M,eM⟩:∃s:Int,s=k:=⟨_,rfl⟩;have e0:ofNat k=M:=by rw[eM];exact e_ofNat hA k
 refine hA.bodyR Try.func62 r62_ok (hA.alike _ _ _ rfl) hlow (zc ?_)
 (refine zq ?_;repeat ((first|rw[e0]);refine zq ?_))
 refine sum_loop hA hb hp hk k4 hB hB2 eM (fun t kn T et bt=>?_) k 0 0 0 (by omega) (by omega) rfl rfl (by show(0:Int).natAbs<=_;exact Nat.zero_le _);have d1:=Int.mul_ediv_add_emod t W;have d2:=Int.emod_nonneg t (show W≠0 by omega);have d3:=Int.emod_lt_of_pos t hW;obtain⟨q,eq⟩:∃s,s=t / W:=⟨_,rfl⟩;obtain⟨r,er⟩:∃s,s=t % W:=⟨_,rfl⟩;obtain⟨u,eu⟩:∃s,s=W*q:=⟨_,rfl⟩;rw[<-eq,<-er,<-eu]at d1;rw[<-er]at d2 d3;have hv:r=Ext.sumN (fun i=>gt b (i:Int)*gt p (i:Int)) k % W:=by rw[er,et]
 have hq:=hQ r hv;clear hv et;have m1:arith .mul .i64 W q=u:=by rw[eu];exact mul64 hA (by rw[<-eu];omega) (by rw[<-eu];omega)
 have m2:arith .sub .i64 t u=r:=by rw[sub64 hA (by omega) (by omega)];omega
 refine zq ?_;refine sfloor_ok hA hW (by omega) (by omega) hlow (fun q' eq'=>⟨q',rfl,?_⟩);obtain rfl:q'=q:=by rw[eq',eq]
 (refine zq ?_;repeat ((first|rw[m1]|rw[m2]);refine zq ?_))
 exact hq
end Go.Proofs.Ytdpbiegfljmhmaa
namespace Go.Proofs.Ytdpbiegfljmhmaa
open Go.Sim
set_option maxRecDepth 100000
structure Whl(B:List Fc)(i:Nat)(W:Int):Prop where
 pos:0<W
 le:W<=((60 ^ i:Nat):Int)
 dvd:∀j:Nat,j<i->(gt B (j:Int)).d∣W
theorem Whl.start(B:List Fc):Whl B 0 1:=⟨by decide,by decide,fun j hj=>by omega⟩
theorem Whl.step{B:List Fc}{i:Nat}{W d:Int}(w:Whl B i W)(ed:d=(gt B (i:Int)).d)(d1:1<=d)(d60:d<=60):Whl B (i+1) (W*(d / (Int.gcd W d:Int))):=by
 have hp:=w.pos;have g0:0<Int.gcd W d:=Int.gcd_pos_of_ne_zero_left d (by omega);have gd:(Int.gcd W d:Int)∣d:=Int.gcd_dvd_right W d;have gw:(Int.gcd W d:Int)∣W:=Int.gcd_dvd_left W d;obtain⟨c,hc⟩:=gd;obtain⟨v,hv⟩:=gw;obtain⟨G,eG⟩:∃s:Int,s=(Int.gcd W d:Int):=⟨_,rfl⟩;rw[<-eG]at hc hv ⊢;have G0:0<G:=by omega
 have eq:d / G=c:=by rw[hc];exact Int.mul_ediv_cancel_left c (by omega)
 rw[eq];have c0:0<c:=by
  by_cases q:0<c
  ·exact q
  ·have:=Int.mul_le_mul_of_nonneg_left (show c<=0 by omega) (Int.le_of_lt G0)
   rw[Int.mul_zero]at this;omega
 have cd:c<=d:=by
  rw[hc];have:=Int.mul_le_mul_of_nonneg_right (show 1<=G by omega) (Int.le_of_lt c0);rw[Int.one_mul]at this;exact this
 refine⟨Int.mul_pos hp c0,?_,fun j hj=>?_⟩
 ·have h1:W*c<=((60 ^ i:Nat):Int)*60:=Int.mul_le_mul w.le (by omega) (Int.le_of_lt c0) (Int.natCast_nonneg _)
  rw[Nat.pow_succ];omega
 ·by_cases e:j=i
  ·rw[e,<-ed]
   exact⟨v,by rw[hc,hv,Int.mul_assoc,Int.mul_assoc,Int.mul_comm v c]⟩
  ·exact Int.dvd_mul_of_dvd_left (w.dvd j (by omega))
def parL(B:List Fc)(W:Int)(k:Nat):List Int:=lst (fun i=>(gt B (i:Int)).n*(W / (gt B (i:Int)).d)) k
theorem parL_at{B:List Fc}{W:Int}{k i:Nat}(h:i<k):gt (parL B W k) (i:Int)=(gt B (i:Int)).n*(W / (gt B (i:Int)).d):=lst_gt _ h
theorem Whl.part{B:List Fc}{k:Nat}{W:Int}(w:Whl B k W)(ht:∀i:Int,0<=i->i<k->turnF (gt B i)/\(gt B i).d<=60){i:Nat}(hi:i<k):isF (gt B (i:Int)).n (gt B (i:Int)).d (rq ((gt B (i:Int)).n*(W / (gt B (i:Int)).d)) W)/\0<=(gt B (i:Int)).n*(W / (gt B (i:Int)).d)/\(gt B (i:Int)).n*(W / (gt B (i:Int)).d)<W/\(gt B (i:Int)).n*(W / (gt B (i:Int)).d)<=W:=by
 obtain⟨⟨ok,n0,n1⟩,_⟩:=ht i (by omega) (by omega);obtain⟨c,hc⟩:=w.dvd i hi;obtain⟨f,ef⟩:∃f,f=gt B (i:Int):=⟨_,rfl⟩;rw[<-ef]at ok n0 n1 hc ⊢;have f1:=ok.is.den;have wp:=w.pos;have ec:W / f.d=c:=by rw[hc];exact Int.mul_ediv_cancel_left c (by omega)
 rw[ec];have c0:0<c:=by
  by_cases q:0<c
  ·exact q
  ·have:=Int.mul_le_mul_of_nonneg_left (show c<=0 by omega) (show 0<=f.d by omega)
   rw[Int.mul_zero]at this;omega
 have h1:f.n*c<f.d*c:=Int.mul_lt_mul_of_pos_right n1 c0;refine⟨?_,Int.mul_nonneg n0 (by omega),by omega,by omega⟩;have:=ok.is;rw[hc,rq_more (by omega)];exact this
variable{F:Prims}{call head arith cmp scmp bnot bsame conv neg imax imin ofNat slen place inR nz geZ rd wr push next mkOK nat zeros sadd eqAgg cut slc sslc strAt part app cpy putAt fresh lowered bump wrote addN lt ne fpAll fpApp brk yn rng mget mput mnew bytes clr:_}(hA:AP F ⟨call,head,arith,cmp,scmp,bnot,bsame,conv,neg,imax,imin,ofNat,slen,place,inR,nz,geZ,rd,wr,push,next,mkOK,nat,zeros,sadd,eqAgg,cut,slc,sslc,strAt,part,app,cpy,putAt,fresh,lowered,bump,wrote,addN,lt,ne,fpAll,fpApp,brk,yn,rng,mget,mput,mnew,bytes,clr⟩)
include hA
theorem cm_one{h0:AHeap}(hl0:h0.low<=h0.next){k bc:Nat}{ba:Option Addr}{B:List Fc}(hB:Rows fC 2 h0 ba k B)(k4:k<=4)(ht:∀i:Int,0<=i->i<k->turnF (gt B i)/\(gt B i).d<=60){M:Int}(eM:M=k){Q:Exit->SS->Prop}
  (hQ:∀W h' ,Whl B k W->Ext h0 h'->Q (.exit 0) ⟨[(0,.slice ba k bc),(2,.slice none 0 0),(3,.int .i64 W)],0,[],h'⟩) :
  ∀(d i:Nat) (I W:Int) (h:AHeap),k-i<=d->i<=k->I=i->Whl B i W->Ext h0 h->
   head 48 3 0 ⟨[(0,.slice ba k bc),(2,.slice none 0 0),(3,.int .i64 W),(9,.slice ba k bc),(10,.int .i64 M),(11,.int .i64 I)],0,[],h⟩ Q:=by
 refine upTo (fun d ih=>?_);intro i I W h hd hi eI w x;by_cases ci:i<k
 rotate_left
 ·refine hA.roundR Try.func48 r48_ok (zc ?_)
  refine br (I<M) (by rw[e_lss hA]) (fun q=>by omega) (fun _=>?_)<;>refine zc ?_;obtain rfl:i=k:=by omega
  exact hQ W h w x
 obtain⟨d,rfl⟩:∃k,d=k+1:=⟨d-1,by omega⟩
 replace ih:=ih d rfl
 obtain⟨⟨ok,n0,n1⟩,d60⟩:=ht i (by omega) (by omega);obtain⟨bb,bo,rfl,_,w1⟩:=(hB.ext x).at (i:=I) (by omega) (by omega);have w1:=w1 0 2 (by omega) (by omega);obtain⟨f,ef⟩:∃f,f=gt B (i:Int):=⟨_,rfl⟩;rw[eI,<-ef,<-eI]at w1;rw[<-ef]at ok n0 n1 d60;have f1:=ok.is.den;have w2:=w.step (d:=f.d) (by rw[ef]) f1 d60;have wp:=w.pos;have wl:=w.le;have p60:(60:Nat) ^ i<=60 ^ 4:=Nat.pow_le_pow_right (by omega) (by omega);obtain⟨fn,fd⟩:=f;simp only at *;have r1:rd h bb (place bo I 2) 2 [.int .i64 fn,.int .i64 fd]:=rd_ok hA w1;have w2l:=w2.le;have w2p:=w2.pos;have p61:(60:Nat) ^ (i+1)<=60 ^ 4:=Nat.pow_le_pow_right (by omega) (by omega);have gpos:0<Int.gcd W fd:=Int.gcd_pos_of_ne_zero_left fd (by omega);refine hA.roundR Try.func48 r48_ok (zc ?_);refine br (I<M) (by rw[e_lss hA]) (fun _=>?_) (fun q=>by omega)<;>refine zc ?_;refine zq ?_;refine sgcd_ok hA (x.lowOK hl0) (a:=W) (b:=fd) (by omega) (by omega) (fun h' x'=>⟨_,rfl,?_⟩);obtain⟨G,eG⟩:∃s:Int,s=(Int.gcd W fd:Int):=⟨_,rfl⟩;rw[<-eG]at w2 w2l w2p ⊢;have m1:arith .quo .i64 fd G=fd / G:=quo64 hA (by omega) (by omega) (by omega);obtain⟨c,ec⟩:∃s,s=fd / G:=⟨_,rfl⟩;rw[<-ec]at w2 w2l w2p m1;obtain⟨W2,eW2⟩:∃s,s=W*c:=⟨_,rfl⟩;rw[<-eW2]at w2 w2l w2p;have m2:arith .mul .i64 W c=W2:=by rw[eW2];exact mul64 hA (by rw[<-eW2];omega) (by rw[<-eW2];omega)
 (refine zq ?_;repeat ((first|rw[m1]|rw[m2]);refine zq ?_))
 rw[add64 hA (by omega) (by omega)];exact ih (i+1) (I+1) W2 h' (by omega) (by omega) (by omega) w2 (x.trans x')
omit hA in
theorem parL_succ(B:List Fc)(W:Int)(k:Nat):parL B W (k+1)=parL B W k++[(gt B (k:Int)).n*(W / (gt B (k:Int)).d)]:=lst_succ _ _
theorem cm_two{h0:AHeap}(hl0:h0.low<=h0.next){k bc:Nat}{ba:Option Addr}{B:List Fc}(hB:Rows fC 2 h0 ba k B)(k4:k<=4)(ht:∀i:Int,0<=i->i<k->turnF (gt B i)/\(gt B i).d<=60){M W:Int}(eM:M=k)(w:Whl B k W){Q:Exit->SS->Prop}
  (hQ:∀h' qa qc,Apd h' 1 qa k qc ((parL B W k).flatMap nC)->From h0.next qa->Ext h0 h'->Q (.exit 2) ⟨[(2,.slice qa k qc),(3,.int .i64 W)],0,[],h'⟩) :
  ∀(d i:Nat) (I:Int) (h:AHeap) (qa:Option Addr) (qc:Nat),k-i<=d->i<=k->I=i->Apd h 1 qa i qc ((parL B W i).flatMap nC)->From h0.next qa->Ext h0 h->
   head 48 9 0 ⟨[(2,.slice qa i qc),(3,.int .i64 W),(25,.slice ba k bc),(26,.int .i64 M),(27,.int .i64 I)],0,[],h⟩ Q:=by
 refine upTo (fun d ih=>?_);intro i I h qa qc hd hi eI t hf x;by_cases ci:i<k
 rotate_left
 ·refine hA.roundR Try.func48 r48_ok (zc ?_)
  refine br (I<M) (by rw[e_lss hA]) (fun q=>by omega) (fun _=>?_)<;>refine zc ?_;obtain rfl:i=k:=by omega
  exact hQ h qa qc t hf x
 obtain⟨d,rfl⟩:∃k,d=k+1:=⟨d-1,by omega⟩
 replace ih:=ih d rfl
 obtain⟨⟨ok,n0,n1⟩,d60⟩:=ht i (by omega) (by omega);obtain⟨bb,bo,rfl,_,w1⟩:=(hB.ext x).at (i:=I) (by omega) (by omega);have w1:=w1 0 2 (by omega) (by omega);obtain⟨pq,p0,p1,_⟩:=w.part ht ci;have es:=parL_succ B W i;have wp:=w.pos;have wl:=w.le;have p60:(60:Nat) ^ k<=60 ^ 4:=Nat.pow_le_pow_right (by omega) (by omega);obtain⟨f,ef⟩:∃f,f=gt B (i:Int):=⟨_,rfl⟩;rw[eI,<-ef,<-eI]at w1;rw[<-ef]at ok n0 n1 d60 es p0 p1;have f1:=ok.is.den;obtain⟨fn,fd⟩:=f;simp only at *;have r1:rd h bb (place bo I 2) 2 [.int .i64 fn,.int .i64 fd]:=rd_ok hA w1;have m1:arith .quo .i64 W fd=W / fd:=quo64 hA (by omega) (by omega) (by omega);obtain⟨c,ec⟩:∃s,s=W / fd:=⟨_,rfl⟩;rw[<-ec]at m1 es p0 p1;obtain⟨q,eq⟩:∃s,s=fn*c:=⟨_,rfl⟩;rw[<-eq]at es p0 p1;have m2:arith .mul .i64 fn c=q:=by rw[eq];exact mul64 hA (by rw[<-eq];omega) (by rw[<-eq];omega)
 obtain⟨h9,hh9⟩:∃z,z=bump h 11:=⟨_,rfl⟩;refine hA.roundR Try.func48 r48_ok (zc ?_);refine br (I<M) (by rw[e_lss hA]) (fun _=>?_) (fun q=>by omega)<;>refine zc ?_;refine zq ?_;rw[<-hh9]
 (refine zq ?_;repeat ((first|rw[m1]|rw[m2]);refine zq ?_))
 refine appD_ok hA TI1 nC_len (by omega) nC_ok hl0 x (by omega) hh9 (v:=q) t hf (by omega) (fun a' c' h' hp' hf' x'=>?_);obtain⟨hZ,hhZ⟩:∃z,z=lowered (putAt h9 (addN (next h) 8) 1 (nC q)) h':=⟨_,rfl⟩;rw[<-hhZ]at hp' x';have hhZ':hZ=lowered (putAt h9 (addN (next h) 8) 1 [.int .i64 q]) h':=hhZ;rw[<-es]at hp';obtain⟨i1,ei1⟩:∃z,z=i+1:=⟨_,rfl⟩;rw[<-ei1]at hp' ⊢;refine zc ?_;rw[<-hhZ'];refine zq ?_;rw[add64 hA (by omega) (by omega)];exact ih i1 (I+1) hZ a' c' (by omega) (by omega) (by omega) hp' hf' x'
theorem common_ok{h:AHeap}(hlow:h.low<=h.next){k bc:Nat}{ba:Option Addr}{B:List Fc}(hB:Rows fC 2 h ba k B)(k4:k<=4)(ht:∀i:Int,0<=i->i<k->turnF (gt B i)/\(gt B i).d<=60){Q:Value->AHeap->Prop}
  (hQ:∀W h' qa qc,Whl B k W->Apd h' 1 qa k qc ((parL B W k).flatMap nC)->Ext h h'->Q (.tuple #[.slice qa k qc,.int .i64 W]) h'):call 48 [.slice ba k bc] h Q:=by
 obtain⟨M,eM⟩:∃s:Int,s=k:=⟨_,rfl⟩;have e0:ofNat k=M:=by rw[eM];exact e_ofNat hA k
 refine hA.bodyR Try.func48 r48_ok (hA.alike _ _ _ rfl) hlow (zc ?_)
 (refine zq ?_;repeat ((first|rw[e0]);refine zq ?_))
 refine cm_one hA hlow hB k4 ht eM (fun W h1 w x=>?_) k 0 0 1 h (by omega) (by omega) rfl (Whl.start B) (.refl h)
 (refine zq ?_;repeat ((first|rw[e0]);refine zq ?_))
 refine cm_two hA hlow hB k4 ht eM w (fun h2 qa qc t hf x2=>?_) k 0 0 h1 none 0 (by omega) (by omega) rfl (.nil _ _) (.none _) x;refine zq ?_;exact hQ W h2 qa qc w t x2
