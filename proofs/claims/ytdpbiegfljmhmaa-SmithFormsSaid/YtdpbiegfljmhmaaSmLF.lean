import Derived.Test.YtdpbiegfljmhmaaDetN
import Derived.Test.YtdpbiegfljmhmaaDetJ
import Derived.Test.YtdpbiegfljmhmaaSmX
import Derived.Test.YtdpbiegfljmhmaaTrM
set_option linter.unusedSimpArgs false
set_option linter.unusedVariables false
namespace Go.Proofs.Ytdpbiegfljmhmaa
open Go.Sim
set_option maxRecDepth 100000
theorem take_gt{α:Type}[Inhabited α](l:List α){i:Nat}{I:Int}(eI:I=i)(h:i<l.length):l.take (i+1)=l.take i++[gt l I]:=by
 rw[List.take_succ_eq_append_getElem h]
 congr 2
 unfold gt;rw[eI,show((i:Int)).toNat=i from rfl,List.getD_eq_getElem?_getD,List.getElem?_eq_getElem h];rfl
theorem LLs.rw{h0 h:AHeap}{a:Option Addr}{N n k f:Nat}{hd:List Hd}(t:LLs h0 h a N hd (Ext.ch n k f)){i:Int}(i0:0<=i)(i1:i<N):∃b o x c,a=some ⟨b,o,none⟩/\b<h.next/\h.readG ⟨b,o+i.toNat*1,none⟩ 1=some [.slice x k c]/\Rw h x k c (gt (Ext.ch n k f) i)/\∀y∈gt (Ext.ch n k f) i,0<=y/\y<n:=by
 have hm:=gt_mem (Ext.ch n k f) (i:=i) i0 (by rw[t.gr.len];exact i1);have hl:=Ext.ch_len n k f _ hm;have row:=t.gr.row i i0 i1;have e:(gt hd i).n=k:=by rw[<-row.len,hl]
 obtain⟨b,o,e1,e2,e3⟩:=t.gr.hdAt i0 i1;rw[e]at e3 row;have cp:=t.cap i i0 i1;unfold capOK at cp;rw[e]at cp;exact⟨b,o,_,_,e1,e2,e3,⟨hl,fun _=>row,cp⟩,Ext.ch_lt n k f _ hm⟩
variable{F:Prims}{call head arith cmp scmp bnot bsame conv neg imax imin ofNat slen place inR nz geZ rd wr push next mkOK nat zeros sadd eqAgg cut slc sslc strAt part app cpy putAt fresh lowered bump wrote addN lt ne fpAll fpApp brk yn rng mget mput mnew bytes clr:_}(hA:AP F ⟨call,head,arith,cmp,scmp,bnot,bsame,conv,neg,imax,imin,ofNat,slen,place,inR,nz,geZ,rd,wr,push,next,mkOK,nat,zeros,sadd,eqAgg,cut,slc,sslc,strAt,part,app,cpy,putAt,fresh,lowered,bump,wrote,addN,lt,ne,fpAll,fpApp,brk,yn,rng,mget,mput,mnew,bytes,clr⟩)
include hA
theorem rd_in{h0:AHeap}(hl0:h0.low<=h0.next){m n ac k g0 NR NC i rc cc:Nat}{aa ra ca:Option Addr}{hds hr hc:List Hd}{g:List (List Int)}{hz:AHeap}(hM:Mat g m n)(hg:GrR nC 1 h0 aa m hds g)(k1:1<=k)(hk:k<=4)(lr:LLs hz h0 ra NR hr (Ext.ch m k 0))(lc:LLs hz h0 ca NC hc (Ext.ch n k 0)){I N:Int}(eI:I=i)(hi:i<NR)(eN:N=NC)(hN:NC<=300){Q:Exit->SS->Prop}
  (hQ:∀(h':AHeap) (gg:Nat) (G:Int),Ext h0 h'->G=gg->gg<=157464->(∀d:Nat,d∣gg↔d∣g0/\∀c∈Ext.ch n k 0,d∣(Ext.mnr g k (gt (Ext.ch m k 0) I) c).natAbs)->Q (.exit 2) ⟨[(0,.slice aa m ac),(5,.int .i64 G),(6,.slice ra NR rc),(7,.slice ca NC cc),(8,.int .i64 I)],12,[],h'⟩) :
  ∀(d j gg:Nat) (J G:Int) (h:AHeap),NC-j<=d->j<=NC->J=j->Ext h0 h->G=gg->gg<=157464->(∀d:Nat,d∣gg↔d∣g0/\∀c∈(Ext.ch n k 0).take j,d∣(Ext.mnr g k (gt (Ext.ch m k 0) I) c).natAbs)->
   head 54 7 12 ⟨[(0,.slice aa m ac),(5,.int .i64 G),(6,.slice ra NR rc),(7,.slice ca NC cc),(8,.int .i64 I),(9,.int .i64 J)],12,[],h⟩ Q:=by
 intro d;have e0:ofNat NC=N:=by rw[eN];exact e_ofNat hA NC
 have lcl:=lc.gr.len
 induction d with
 |zero=>
  intro j gg J G h hd hj eJ x eG hb hdv;refine hA.roundR Try.func54 r54_ok (zc ?_)
  (refine zq ?_;repeat ((first|rw[e0]);refine zq ?_))
  refine br (J<N) (by rw[e_lss hA]) (fun q=>by omega) (fun _=>?_)<;>refine zc ?_;exact hQ h gg G x eG hb (fun d=>by rw[hdv d,List.take_of_length_le (by omega)])
 |succ d ih=>
 intro j gg J G h hd hj eJ x eG hb hdv;by_cases cj:j<NC
 rotate_left
 ·refine hA.roundR Try.func54 r54_ok (zc ?_)
  (refine zq ?_;repeat ((first|rw[e0]);refine zq ?_))
  refine br (J<N) (by rw[e_lss hA]) (fun q=>by omega) (fun _=>?_)<;>refine zc ?_;exact hQ h gg G x eG hb (fun d=>by rw[hdv d,List.take_of_length_le (by omega)])
 obtain⟨h9,eh9⟩:∃z,z=bump h 13:=⟨_,rfl⟩;have x9:Ext h h9:=by rw[eh9];exact ext_bump hA _ _
 have y9:=x.trans x9;have l9:=y9.lowOK hl0;obtain⟨rb,ro,xr,xrc,era,hrb,w1,rw1,rl1⟩:=(lr.more y9).rw (i:=I) (by omega) (by omega);obtain⟨cb,co,xc,xcc,eca,hcb,w2,rw2,rl2⟩:=(lc.more y9).rw (i:=J) (by omega) (by omega);cases ra with
 |none=>cases era
 |some rad=>
 cases era;cases ca with
 |none=>cases eca
 |some cad=>
 cases eca;have q1:rd h9 rb (place ro I 1) 1 [.slice xr k xrc]:=rd_ok hA w1;have q2:rd h9 cb (place co J 1) 1 [.slice xc k xcc]:=rd_ok hA w2;have xf:=ext_fresh hA h9;have fl:=low_fresh hA h9;refine hA.roundR Try.func54 r54_ok (zc ?_)
 (refine zq ?_;repeat ((first|rw[e0]);refine zq ?_))
 refine br (J<N) (by rw[e_lss hA]) (fun _=>?_) (fun q=>by omega)<;>refine zc ?_;refine zq ?_;rw[<-eh9];refine zq ?_;refine det_ok hA hM k (fresh h9) fl (hg.ext (y9.trans xf)) hk xr xc xrc xcc _ _ _ ⟨rw1.len,fun q=>(rw1.rows q).ext xf,rw1.cap⟩ ⟨rw2.len,fun q=>(rw2.rows q).ext xf,rw2.cap⟩ rl1 rl2 (fun v h1 ev bv x1=>⟨v,rfl,?_⟩);obtain⟨X1,eX1⟩:∃z,z=lowered h9 h1:=⟨_,rfl⟩;have yX1:Ext h0 X1:=by rw[eX1];exact ext_low hA hl0 y9 x1
 have elim:addN (next h) 13=h9.next:=by rw[e_addN hA,e_next hA,eh9,e_bump hA];rfl
 have nw:=wrote_no hA x1;refine zq ?_;rw[<-eX1];refine gcd30_ok hA (low_fresh hA X1) (a:=G) (b:=v) (by omega) (by omega) (fun h2 x2=>⟨_,rfl,?_⟩);have ed:v=Ext.mnr g k (gt (Ext.ch m k 0) I) (gt (Ext.ch n k 0) J):=by
  rw[ev,Ext.lap_dt g hk rw1.len rw2.len]
 have eg2:Int.gcd G v=Nat.gcd gg (Ext.mnr g k (gt (Ext.ch m k 0) I) (gt (Ext.ch n k 0) J)).natAbs:=by
  rw[eG,ed];rfl
 rw[eg2];have hb2:Nat.gcd gg (Ext.mnr g k (gt (Ext.ch m k 0) I) (gt (Ext.ch n k 0) J)).natAbs<=157464:=Ext.gcd_le hb (Ext.mnr_le hM.nine _ _ _);have hdv2:∀d:Nat,d∣Nat.gcd gg (Ext.mnr g k (gt (Ext.ch m k 0) I) (gt (Ext.ch n k 0) J)).natAbs↔d∣g0/\∀c∈(Ext.ch n k 0).take (j+1),d∣(Ext.mnr g k (gt (Ext.ch m k 0) I) c).natAbs:=fun d=>by
  rw[Nat.dvd_gcd_iff,hdv d,take_gt (Ext.ch n k 0) eJ (by rw[lcl];exact cj)];constructor
  ·rintro⟨⟨a1,a2⟩,a3⟩
   refine⟨a1,fun c hc=>?_⟩;rcases List.mem_append.1 hc with q|q
   ·exact a2 c q
   ·rw[List.mem_singleton.1 q];exact a3
  ·rintro⟨a1,a2⟩
   exact⟨⟨a1,fun c hc=>a2 c (List.mem_append_left _ hc)⟩,a2 _ (List.mem_append_right _ (List.mem_singleton.2 rfl))⟩
 generalize Nat.gcd gg (Ext.mnr g k (gt (Ext.ch m k 0) I) (gt (Ext.ch n k 0) J)).natAbs=g2 at *;obtain⟨G2,eG2⟩:∃z:Int,z=g2:=⟨_,rfl⟩;rw[<-eG2];obtain⟨X2,eX2⟩:∃z,z=lowered X1 h2:=⟨_,rfl⟩;have yX2:Ext h0 X2:=by rw[eX2];exact ext_low hA hl0 yX1 x2
 have nw2:=wrote_no hA x2;clear ed ev eg2;refine zq ?_;rw[<-eX2,add64 hA (by omega) (by omega)];exact ih (j+1) g2 (J+1) G2 X2 (by omega) (by omega) (by omega) yX2 eG2 hb2 hdv2
theorem rd_out{h0:AHeap}(hl0:h0.low<=h0.next){m n ac k NR NC rc cc:Nat}{aa ra ca:Option Addr}{hds hr hc:List Hd}{g:List (List Int)}{hz:AHeap}(hM:Mat g m n)(hg:GrR nC 1 h0 aa m hds g)(k1:1<=k)(hk:k<=4)(lr:LLs hz h0 ra NR hr (Ext.ch m k 0))(lc:LLs hz h0 ca NC hc (Ext.ch n k 0)){N:Int}(eN:N=NR)(hN:NR<=300)(hC:NC<=300){Q:Exit->SS->Prop}
  (hQ:∀(h':AHeap) (gg:Nat) (G:Int),Ext h0 h'->G=gg->(∀d:Nat,d∣gg↔∀r∈Ext.ch m k 0,∀c∈Ext.ch n k 0,d∣(Ext.mnr g k r c).natAbs)->Q (.exit 0) ⟨[(5,.int .i64 G)],12,[],h'⟩) :
  ∀(d i gg:Nat) (I G:Int) (h:AHeap),NR-i<=d->i<=NR->I=i->Ext h0 h->G=gg->gg<=157464->(∀d:Nat,d∣gg↔∀r∈(Ext.ch m k 0).take i,∀c∈Ext.ch n k 0,d∣(Ext.mnr g k r c).natAbs)->
   head 54 4 12 ⟨[(0,.slice aa m ac),(5,.int .i64 G),(6,.slice ra NR rc),(7,.slice ca NC cc),(8,.int .i64 I)],12,[],h⟩ Q:=by
 intro d;have e0:ofNat NR=N:=by rw[eN];exact e_ofNat hA NR
 obtain⟨C,eC⟩:∃z:Int,z=NC:=⟨_,rfl⟩;have lrl:=lr.gr.len
 induction d with
 |zero=>
  intro i gg I G h hd hi eI x eG hb hdv;refine hA.roundR Try.func54 r54_ok (zc ?_)
  (refine zq ?_;repeat ((first|rw[e0]);refine zq ?_))
  refine br (I<N) (by rw[e_lss hA]) (fun q=>by omega) (fun _=>?_)<;>refine zc ?_;exact hQ h gg G x eG (fun d=>by rw[hdv d,List.take_of_length_le (by omega)])
 |succ d ih=>
 intro i gg I G h hd hi eI x eG hb hdv;by_cases ci:i<NR
 rotate_left
 ·refine hA.roundR Try.func54 r54_ok (zc ?_)
  (refine zq ?_;repeat ((first|rw[e0]);refine zq ?_))
  refine br (I<N) (by rw[e_lss hA]) (fun q=>by omega) (fun _=>?_)<;>refine zc ?_;exact hQ h gg G x eG (fun d=>by rw[hdv d,List.take_of_length_le (by omega)])
 refine hA.roundR Try.func54 r54_ok (zc ?_)
 (refine zq ?_;repeat ((first|rw[e0]);refine zq ?_))
 refine br (I<N) (by rw[e_lss hA]) (fun _=>?_) (fun q=>by omega)<;>refine zc ?_;refine zq ?_;refine rd_in hA hl0 hM hg k1 hk lr lc eI ci eC hC (g0:=gg) (fun h' g2 G2 x' eG2 hb2 hdv2=>?_) NC 0 gg 0 G h (by omega) (by omega) rfl x eG hb (fun d=>by rw[List.take_zero];exact⟨fun a=>⟨a,fun c hc=>absurd hc List.not_mem_nil⟩,fun a=>a.1⟩);refine zq ?_;rw[add64 hA (by omega) (by omega)];refine ih (i+1) g2 (I+1) G2 h' (by omega) (by omega) (by omega) x' eG2 hb2 (fun d=>?_);rw[hdv2 d,hdv d,take_gt (Ext.ch m k 0) eI (by rw[lrl];exact ci)];constructor
 ·rintro⟨a1,a2⟩ r hr
  rcases List.mem_append.1 hr with q|q
  ·exact a1 r q
  ·rw[List.mem_singleton.1 q];exact a2
 ·intro a
  exact⟨fun r hr=>a r (List.mem_append_left _ hr),a _ (List.mem_append_right _ (List.mem_singleton.2 rfl))⟩
theorem rdivisor_ok{h:AHeap}(hlow:h.low<=h.next){m n ac k:Nat}{aa:Option Addr}{hds:List Hd}{g:List (List Int)}(hM:Mat g m n)(hg:GrR nC 1 h aa m hds g){K:Int}(eK:K=k)(k1:1<=k)(hk:k<=4){Q:Value->AHeap->Prop}
  (hQ:∀(v:Int) h',v=Ext.Dv g m n k->Ext h h'->Q (.int .i64 v) h'):call 54 [.slice aa m ac,.int .i64 K] h Q:=by
 obtain⟨M,eM⟩:∃z:Int,z=m:=⟨_,rfl⟩;have e1:ofNat m=M:=by rw[eM];exact e_ofNat hA m
 obtain⟨N,eN⟩:∃z:Int,z=n:=⟨_,rfl⟩;have e2:ofNat n=N:=by rw[eN];exact e_ofNat hA n
 obtain⟨h9,eh9⟩:∃z,z=bump h 12:=⟨_,rfl⟩;have x9:Ext h h9:=by rw[eh9];exact ext_bump hA _ _
 have mpos:=hM.m1;obtain⟨ab,ao,rfl,hab,w0⟩:=(hg.ext x9).hdAt (i:=0) (by omega) (by omega);have row:=hg.row 0 (by omega) (by omega);have hln:(gt g 0).length=n:=hM.row 0 (by omega) (by omega);have hn2:=row.len;rw[hln]at hn2;rw[<-hn2]at w0;obtain⟨xa,exa⟩:∃z,z=(gt hds 0).a:=⟨_,rfl⟩;obtain⟨xc,exc⟩:∃z,z=(gt hds 0).c:=⟨_,rfl⟩;rw[<-exa,<-exc]at w0;have r1:rd h9 ab (place ao 0 1) 1 [.slice xa n xc]:=rd_ok hA w0;have elim:addN (next h) 12=h9.next:=by rw[e_addN hA,e_next hA,eh9,e_bump hA];rfl
 refine hA.bodyR Try.func54 r54_ok (hA.alike _ _ _ rfl) hlow (zc ?_)
 (refine zq ?_;repeat ((first|rw[e1]);refine zq ?_))
 rw[<-eh9]
 (refine zq ?_;repeat ((first|rw[e2]);refine zq ?_))
 refine choices_ok hA hM.m4 k hk 0 (fresh h9) (low_fresh hA h9) 0 M K _ rfl eM eK (fun h1 ra NR rc hr lr=>⟨_,_,_,rfl,?_⟩);obtain⟨X1,eX1⟩:∃z,z=lowered h9 h1:=⟨_,rfl⟩;have yX1:Ext h X1:=by rw[eX1];exact ext_low hA hlow x9 lr.ext
 have nw:=wrote_no hA lr.ext
 (refine zq ?_;repeat ((first|rw[e2]);refine zq ?_))
 rw[<-eX1];refine choices_ok hA hM.n4 k hk 0 (fresh X1) (low_fresh hA X1) 0 N K _ rfl eN eK (fun h2 ca NC cc hc lc=>⟨_,_,_,rfl,?_⟩);obtain⟨X2,eX2⟩:∃z,z=lowered X1 h2:=⟨_,rfl⟩;have yX2:Ext X1 X2:=by rw[eX2];exact ext_low hA (yX1.lowOK hlow) (.refl X1) lc.ext
 have nw2:=wrote_no hA lc.ext;have k44:4 ^ k<=256:=Nat.pow_le_pow_right (n:=4) (by omega) hk;have cN:=ch_cnt hM.m4 k 0;have cC:=ch_cnt hM.n4 k 0;have lrl:=lr.gr.len;have lcl:=lc.gr.len;have xh2:=yX1.trans yX2;have lr1:LLs h X1 ra NR hr (Ext.ch m k 0):=(lr.back (x9.trans (ext_fresh hA h9))).keep yX1 (by rw[eX1,e_lowered hA];exact Nat.le_refl _) (fun ad had=>by rw[eX1,e_lowered hA];rfl) (fun y y0 y1 ad had=>by rw[eX1,e_lowered hA];rfl);have lc1:LLs h X2 ca NC hc (Ext.ch n k 0):=(lc.back (yX1.trans (ext_fresh hA X1))).keep xh2 (by rw[eX2,e_lowered hA];exact Nat.le_refl _) (fun ad had=>by rw[eX2,e_lowered hA];rfl) (fun y y0 y1 ad had=>by rw[eX2,e_lowered hA];rfl)
 (refine zq ?_;repeat ((first|rw[e2]);refine zq ?_))
 refine⟨fp_old hA nw (by rw[elim];exact hab),?_⟩;rw[<-eX2];refine zq ?_;refine rd_out hA (h0:=X2) (hz:=h) (xh2.lowOK hlow) hM (hg.ext xh2) k1 hk (lr1.more yX2) lc1 (N:=(NR:Int)) rfl (by omega) (by omega) (fun h' gg G x eG hdv=>?_) NR 0 0 0 0 X2 (by omega) (by omega) rfl (.refl X2) rfl (by omega) (fun d=>⟨fun _ r hr=>absurd (by rw[List.take_zero]at hr;exact hr) List.not_mem_nil,fun _=>Nat.dvd_zero d⟩);refine zq ?_;exact hQ G h' (by rw[eG];congr 1;exact Ext.DvI.uniq hdv (Ext.Dv_is g m n k)) (xh2.trans x)
end Go.Proofs.Ytdpbiegfljmhmaa
namespace Go.Proofs.Ytdpbiegfljmhmaa
open Go.Sim
set_option maxRecDepth 100000
variable{F:Prims}{call head arith cmp scmp bnot bsame conv neg imax imin ofNat slen place inR nz geZ rd wr push next mkOK nat zeros sadd eqAgg cut slc sslc strAt part app cpy putAt fresh lowered bump wrote addN lt ne fpAll fpApp brk yn rng mget mput mnew bytes clr:_}(hA:AP F ⟨call,head,arith,cmp,scmp,bnot,bsame,conv,neg,imax,imin,ofNat,slen,place,inR,nz,geZ,rd,wr,push,next,mkOK,nat,zeros,sadd,eqAgg,cut,slc,sslc,strAt,part,app,cpy,putAt,fresh,lowered,bump,wrote,addN,lt,ne,fpAll,fpApp,brk,yn,rng,mget,mput,mnew,bytes,clr⟩)
include hA
theorem ri_loop{h0:AHeap}(hl0:h0.low<=h0.next){m n ac:Nat}{aa:Option Addr}{hds:List Hd}{g:List (List Int)}(hM:Mat g m n)(hg:GrR nC 1 h0 aa m hds g){Q:Exit->SS->Prop}
  (hQ:∀(h':AHeap) qa qc r,InvR g m n r->Apd h' 1 qa r qc ((invL g m n r).flatMap nC)->Ext h0 h'->Q (.exit 0) ⟨[(3,.slice qa r qc)],0,[],h'⟩) :
  ∀(d i:Nat) (K L:Int) (h:AHeap) (qa:Option Addr) (qc:Nat),5-i<=d->i<=m->i<=n->K=i+1->L=Ext.Dv g m n i->(∀x,x<i->Ext.Dv g m n (x+1)≠0)->Apd h 1 qa i qc ((invL g m n i).flatMap nC)->From h0.next qa->Ext h0 h->
   head 28 4 0 ⟨[(0,.slice aa m ac),(3,.slice qa i qc),(4,.int .i64 L),(5,.int .i64 K)],0,[],h⟩ Q:=by
 intro d;have m4:=hM.m4;have n4:=hM.n4;have m1:=hM.m1;have n1:=hM.n1;obtain⟨M,eM⟩:∃z:Int,z=m:=⟨_,rfl⟩;have e1:ofNat m=M:=by rw[eM];exact e_ofNat hA m
 obtain⟨N,eN⟩:∃z:Int,z=n:=⟨_,rfl⟩;have e2:ofNat n=N:=by rw[eN];exact e_ofNat hA n
 obtain⟨W,eW⟩:∃z:Int,z=if N<M then N else M:=⟨_,rfl⟩
 have e3:imin M N=W:=by rw[eW,e_imin hA]
 have hW:W=N/\N<=M\/W=M/\M<=N:=by rw[eW];split<;>omega
 have hln:(gt g 0).length=n:=hM.row 0 (by omega) (by omega);have row:=hg.row 0 (by omega) (by omega);have hn2:=row.len;rw[hln]at hn2
 induction d with
 |zero=>intro i K L h qa qc hd im iN;omega
 |succ d ih=>
 intro i K L h qa qc hd im iN eK eL hz t hf x;have hlow:=x.lowOK hl0;obtain⟨ab,ao,rfl,hab,q1⟩:=(hg.ext x).hdAt (i:=0) (by omega) (by omega);rw[<-hn2]at q1;obtain⟨ra,era⟩:∃z,z=(gt hds 0).a:=⟨_,rfl⟩;obtain⟨rc,erc⟩:∃z,z=(gt hds 0).c:=⟨_,rfl⟩;rw[<-era,<-erc]at q1;have r1:rd h ab (place ao 0 1) 1 [.slice ra n rc]:=rd_ok hA q1;refine hA.roundR Try.func28 r28_ok (zc ?_)
 (refine zq ?_;repeat ((first|rw[e1]|rw[e2]|rw[e3]);refine zq ?_))
 refine br (K<=W) (by rw[e_leq hA]) (fun ck=>?_) (fun ck=>?_)<;>refine zc ?_
 rotate_left
 ·exact hQ h qa qc i ⟨by omega,by omega,hz,by omega⟩ t x
 refine zq ?_;refine rdivisor_ok hA hlow hM (hg.ext x) (k:=i+1) (by omega) (by omega) (by omega) (fun v h1 ev x1=>⟨v,rfl,?_⟩);refine zq ?_;refine br (v=0) (by rw[e_eql hA]) (fun cz=>?_) (fun cz=>?_)<;>refine zc ?_
 ·exact hQ h1 qa qc i ⟨by omega,by omega,hz,.inr (.inr (by omega))⟩ (t.ext x1) (x.trans x1)
 have nzy:Ext.Dv g m n i≠0:=by
  cases i with
  |zero=>rw[Ext.Dv_zero];decide
  |succ i=>exact hz i (by omega)
 have lx:=Ext.Dv_le hM.nine m n (i+1);have ly:=Ext.Dv_le hM.nine m n i;have es:=invL_succ g m n i;obtain⟨q,eq⟩:∃z:Int,z=((Ext.Dv g m n (i+1) / Ext.Dv g m n i:Nat):Int):=⟨_,rfl⟩;rw[<-eq]at es;have eq2:q=v / L:=by rw[eq,ev,eL];push_cast;rfl
 have m2:arith .quo .i64 v L=q:=by rw[eq2];exact quo64 hA (by omega) (by omega) (by omega)
 (refine zq ?_;repeat ((first|rw[m2]);refine zq ?_))
 refine appR_ok hA TI1 nC_len (by omega) nC_ok (v:=q) (t.ext x1) (by omega) (fun a' c' h' ap xe=>?_);obtain⟨x2,f2⟩:=xe h0 (x.trans x1) hf;rw[<-es]at ap;obtain⟨i1,ei1⟩:∃z,z=i+1:=⟨_,rfl⟩;rw[<-ei1]at ap ⊢;refine zq ?_;rw[add64 hA (by omega) (by omega)];refine ih i1 (K+1) v h' a' c' (by omega) (by omega) (by omega) (by omega) (by rw[ei1];exact ev) (fun y hy=>?_) ap f2 x2;by_cases e:y=i
 ·rw[e];omega
 ·exact hz y (by omega)
theorem rinvariants_ok{h:AHeap}(hlow:h.low<=h.next){m n ac:Nat}{aa:Option Addr}{hds:List Hd}{g:List (List Int)}(hM:Mat g m n)(hg:GrR nC 1 h aa m hds g){Q:Value->AHeap->Prop}
  (hQ:∀(h':AHeap) qa qc r,InvR g m n r->Apd h' 1 qa r qc ((invL g m n r).flatMap nC)->Ext h h'->Q (.slice qa r qc) h'):call 28 [.slice aa m ac] h Q:=by
 refine hA.bodyR Try.func28 r28_ok (hA.alike _ _ _ rfl) hlow (zc ?_);refine ri_loop hA hlow hM hg (fun h' qa qc r ir t x=>?_) 5 0 1 1 h none 0 (by omega) (by omega) (by omega) rfl (by rw[Ext.Dv_zero];rfl) (fun y hy=>by omega) (.nil _ _) (.none _) (.refl h);refine zq ?_;exact hQ h' qa qc r ir t x
theorem rInvariants_ok{h:AHeap}(hlow:h.low<=h.next){m ac k bc:Nat}{aa ba:Option Addr}{hds:List Hd}{g:List (List Int)}{B:List Fc}(hg:GrN nC 1 h aa m hds g)(hB:Rows fC 2 h ba k B)(hm:m<=1000)(hk:k<=1000)(hl:∀i:Int,0<=i->i<m->(gt g i).length<=1000)(hi:∀i:Int,0<=i->i<k->i64 (gt B i).n/\i64 (gt B i).d){Q:Value->AHeap->Prop}
  (hQ0:∀e h',ChkIs g B e->e≠0->Ext h h'->Q (.tuple #[.slice none 0 0,.int .i64 e]) h')
  (hQ1:∀h' n r qa qc,ChkIs g B 0->Mat g m n->Ext h h'->InvR g m n r->Apd h' 1 qa r qc ((invL g m n r).flatMap nC)->Q (.tuple #[.slice qa r qc,.int .i64 0]) h'):call 9 [.agg #[.slice aa m ac,.slice ba k bc]] h Q:=by
 refine hA.bodyR Try.func9 r9_ok (hA.alike _ _ _ rfl) hlow (zc ?_);refine rCheck_ok hA hlow hg hB hm hk hl hi (fun e h1 he x1=>⟨e,rfl,?_⟩);refine zq ?_;refine br (e≠0) (by rw[e_neq hA]) (fun c=>?_) (fun c=>?_)<;>refine zc ?_
 ·refine zq ?_
  refine rCheck_ok hA (x1.lowOK hlow) (hg.ext x1) (hB.ext x1) hm hk hl hi (fun e2 h2 he2 x2=>⟨e2,rfl,?_⟩);refine zq ?_;obtain rfl:=he.uniq he2;exact hQ0 e h2 he c (x1.trans x2)
 obtain rfl:e=0:=by omega
 obtain⟨gd,nm⟩:=he.good;obtain⟨m',n,hM⟩:=gd.mat nm;obtain rfl:m=m':=by have:=hg.len;have:=hM.len;omega
 have hgf:=hg.full (fun y y0 y1=>by rw[hM.row y y0 y1];exact hM.n1);refine zq ?_;refine rinvariants_ok hA (x1.lowOK hlow) hM (hgf.ext x1) (fun h' qa qc r ir t x=>⟨_,_,_,rfl,?_⟩);refine zq ?_;exact hQ1 h' n r qa qc he hM (x1.trans x) ir t
end Go.Proofs.Ytdpbiegfljmhmaa
namespace Go.Proofs.Ytdpbiegfljmhmaa
open Go.Sim
set_option maxRecDepth 100000
theorem Mat.uniq{g:List (List Int)}{m n m' n':Nat}(a:Mat g m n)(b:Mat g m' n'):m=m'/\n=n':=by
 have h1:=a.len;have h2:=b.len;have h3:=a.row 0 (by omega) (by have:=a.m1;omega);have h4:=b.row 0 (by omega) (by have:=b.m1;omega);omega
structure IvI(g:List (List Int))(B:List Fc)(e:Int)(l:List Int):Prop where
 chk:ChkIs g B e
 bad:e≠0->l=[]
 good:e=0->∃m n r,Mat g m n/\InvR g m n r/\l=invL g m n r
theorem IvI.uniq{g:List (List Int)}{B:List Fc}{e e':Int}{l l':List Int}(a:IvI g B e l)(b:IvI g B e' l'):e=e'/\l=l':=by
 obtain rfl:=a.chk.uniq b.chk;refine⟨rfl,?_⟩;by_cases c:e=0
 ·obtain⟨m,n,r,h1,h2,rfl⟩:=a.good c
  obtain⟨m',n',r',k1,k2,rfl⟩:=b.good c;obtain⟨rfl,rfl⟩:=h1.uniq k1;rw[h2.uniq k2]
 ·rw[a.bad c,b.bad c]
theorem IvI.few{g:List (List Int)}{B:List Fc}{e:Int}{l:List Int}(a:IvI g B e l):l.length<=4:=by
 by_cases c:e=0
 ·obtain⟨m,n,r,h1,h2,rfl⟩:=a.good c
  have:=h2.lm;have:=h1.m4;show(lst _ r).length<=4;rw[lst_len];omega
 ·rw[a.bad c];decide
structure RlI(g:List (List Int))(B:List Fc)(e:Int)(s w:Nat)(G:Nat->Ext.Vec):Prop where
 chk:ChkIs g B e
 bad:e≠0->s=0/\w=0
 good:e=0->∃m n r A,Mat g m n/\StepsOf g m n r s A/\w=m/\G=fun y j=>A (r+y) (n+j)
structure RlJ(g:List (List Int))(B:List Fc)(e:Int)(s w:Nat)(G:Nat->Ext.Vec):Prop where
 chk:ChkIs g B e
 bad:e≠0->s=0/\w=0
 good:e=0->∃m n r H,Mat g m n/\RefRel g m n r s H G/\w=m
theorem RlI.same{g:List (List Int)}{B:List Fc}{e e':Int}{s s' w w':Nat}{G G':Nat->Ext.Vec}(a:RlI g B e s w G)(b:RlJ g B e' s' w' G'):e=e'/\s=s'/\w=w'/\∀i j,i<s->j<w->G i j=G' i j:=by
 obtain rfl:=a.chk.uniq b.chk;refine⟨rfl,?_⟩;by_cases c:e=0
 ·obtain⟨m,n,r,A,h1,h2,rfl,rfl⟩:=a.good c
  obtain⟨m',n',r',H,k1,k2,rfl⟩:=b.good c;obtain⟨rfl,rfl⟩:=h1.uniq k1;obtain⟨q1,q2⟩:=rel_same h2 k2;exact⟨q1,rfl,fun i j hi hj=>q2 i hi j hj⟩
 ·obtain⟨rfl,rfl⟩:=a.bad c
  obtain⟨rfl,rfl⟩:=b.bad c;exact⟨rfl,rfl,fun i j hi=>absurd hi (Nat.not_lt_zero i)⟩
theorem RlI.few{g:List (List Int)}{B:List Fc}{e:Int}{s w:Nat}{G:Nat->Ext.Vec}(a:RlI g B e s w G):s<=4/\w<=4:=by
 by_cases c:e=0
 ·obtain⟨m,n,r,A,h1,h2,rfl,rfl⟩:=a.good c
  have:=h2.sum;have:=h1.m4;omega
 ·obtain⟨rfl,rfl⟩:=a.bad c;omega
theorem Grd.none(h:AHeap)(G:Nat->Ext.Vec):Grd h h 0 0 Option.none 0 (fun _=>0) G:=
 ⟨⟨.refl h,fun y hy=>absurd hy (Nat.not_lt_zero y),fun y hy=>absurd hy (Nat.not_lt_zero y),fun y hy=>absurd hy (Nat.not_lt_zero y),fun y z hy=>absurd hy (Nat.not_lt_zero y)⟩,.nil _ _,.none _,fun ad had=>by cases had⟩
variable{F:Prims}{call head arith cmp scmp bnot bsame conv neg imax imin ofNat slen place inR nz geZ rd wr push next mkOK nat zeros sadd eqAgg cut slc sslc strAt part app cpy putAt fresh lowered bump wrote addN lt ne fpAll fpApp brk yn rng mget mput mnew bytes clr:_}(hA:AP F ⟨call,head,arith,cmp,scmp,bnot,bsame,conv,neg,imax,imin,ofNat,slen,place,inR,nz,geZ,rd,wr,push,next,mkOK,nat,zeros,sadd,eqAgg,cut,slc,sslc,strAt,part,app,cpy,putAt,fresh,lowered,bump,wrote,addN,lt,ne,fpAll,fpApp,brk,yn,rng,mget,mput,mnew,bytes,clr⟩)
include hA
theorem inv_is{h:AHeap}(hlow:h.low<=h.next){m ac k bc:Nat}{aa ba:Option Addr}{hds:List Hd}{g:List (List Int)}{B:List Fc}(hg:GrN nC 1 h aa m hds g)(hB:Rows fC 2 h ba k B)(hm:m<=1000)(hk:k<=1000)(hl:∀i:Int,0<=i->i<m->(gt g i).length<=1000)(hi:∀i:Int,0<=i->i<k->i64 (gt B i).n/\i64 (gt B i).d){Q:Value->AHeap->Prop}
  (hQ:∀e h' qa r qc l,IvI g B e l->Rows nC 1 h' qa r l->Ext h h'->Q (.tuple #[.slice qa r qc,.int .i64 e]) h'):call 8 [.agg #[.slice aa m ac,.slice ba k bc]] h Q:=
 Invariants_ok hA hlow hg hB hm hk hl hi (fun e h' c ne x=>hQ e h' none 0 0 [] ⟨c,fun _=>rfl,fun q=>absurd q ne⟩ (Rows.nil h' nC_len (by omega)) x)
  (fun h' n r qa qc c hM x ir t=>hQ 0 h' qa r qc _ ⟨c,fun q=>absurd rfl q,fun _=>⟨m,n,r,hM,ir,rfl⟩⟩ ⟨t.cells,nC_len,by omega⟩ x)
theorem rinv_is{h:AHeap}(hlow:h.low<=h.next){m ac k bc:Nat}{aa ba:Option Addr}{hds:List Hd}{g:List (List Int)}{B:List Fc}(hg:GrN nC 1 h aa m hds g)(hB:Rows fC 2 h ba k B)(hm:m<=1000)(hk:k<=1000)(hl:∀i:Int,0<=i->i<m->(gt g i).length<=1000)(hi:∀i:Int,0<=i->i<k->i64 (gt B i).n/\i64 (gt B i).d){Q:Value->AHeap->Prop}
  (hQ:∀e h' qa r qc l,IvI g B e l->Rows nC 1 h' qa r l->Ext h h'->Q (.tuple #[.slice qa r qc,.int .i64 e]) h'):call 9 [.agg #[.slice aa m ac,.slice ba k bc]] h Q:=
 rInvariants_ok hA hlow hg hB hm hk hl hi (fun e h' c ne x=>hQ e h' none 0 0 [] ⟨c,fun _=>rfl,fun q=>absurd q ne⟩ (Rows.nil h' nC_len (by omega)) x)
  (fun h' n r qa qc c hM x ir t=>hQ 0 h' qa r qc _ ⟨c,fun q=>absurd rfl q,fun _=>⟨m,n,r,hM,ir,rfl⟩⟩ ⟨t.cells,nC_len,by omega⟩ x)
theorem rel_is(hI:InsC F){h:AHeap}(hlow:h.low<=h.next){m ac k bc:Nat}{aa ba:Option Addr}{hds:List Hd}{g:List (List Int)}{B:List Fc}(hg:GrN nC 1 h aa m hds g)(hB:Rows fC 2 h ba k B)(hm:m<=1000)(hk:k<=1000)(hl:∀i:Int,0<=i->i<m->(gt g i).length<=1000)(hi:∀i:Int,0<=i->i<k->i64 (gt B i).n/\i64 (gt B i).d){Q:Value->AHeap->Prop}
  (hQ:∀e h0 h' qa s w qc rb G,RlI g B e s w G->Grd h0 h' s w qa qc rb G->Ext h h'->Q (.tuple #[.slice qa s qc,.int .i64 e]) h'):call 10 [.agg #[.slice aa m ac,.slice ba k bc]] h Q:=
 Relations_ok hA hI hlow hg hB hm hk hl hi (fun e h' c ne x=>hQ e h' h' none 0 0 0 _ _ ⟨c,fun _=>⟨rfl,rfl⟩,fun q=>absurd q ne⟩ (Grd.none h' (fun _ _=>0)) x)
  (fun h0 h' n r s qa qc rb A c hM x st gd=>hQ 0 h0 h' qa s m qc rb _ ⟨c,fun q=>absurd rfl q,fun _=>⟨m,n,r,A,hM,st,rfl,rfl⟩⟩ gd (x.trans gd.rows.ext))
theorem rrel_is{h:AHeap}(hlow:h.low<=h.next){m ac k bc:Nat}{aa ba:Option Addr}{hds:List Hd}{g:List (List Int)}{B:List Fc}(hg:GrN nC 1 h aa m hds g)(hB:Rows fC 2 h ba k B)(hm:m<=1000)(hk:k<=1000)(hl:∀i:Int,0<=i->i<m->(gt g i).length<=1000)(hi:∀i:Int,0<=i->i<k->i64 (gt B i).n/\i64 (gt B i).d){Q:Value->AHeap->Prop}
  (hQ:∀e h0 h' qa s w qc rb G,RlJ g B e s w G->Grd h0 h' s w qa qc rb G->Ext h h'->Q (.tuple #[.slice qa s qc,.int .i64 e]) h'):call 11 [.agg #[.slice aa m ac,.slice ba k bc]] h Q:=
 rRelations_ok hA hlow hg hB hm hk hl hi (fun e h' c ne x=>hQ e h' h' none 0 0 0 _ _ ⟨c,fun _=>⟨rfl,rfl⟩,fun q=>absurd q ne⟩ (Grd.none h' (fun _ _=>0)) x)
  (fun h0 h' n r s qa qc rb H G c hM x st gd=>hQ 0 h0 h' qa s m qc rb _ ⟨c,fun q=>absurd rfl q,fun _=>⟨m,n,r,H,hM,st,rfl⟩⟩ gd (x.trans gd.rows.ext))
theorem lforms_ok(hI:InsC F){h:AHeap}(hlow:h.low<=h.next){m ac k bc:Nat}{aa ba:Option Addr}{hds:List Hd}{g:List (List Int)}{B:List Fc}(hg:GrN nC 1 h aa m hds g)(hB:Rows fC 2 h ba k B)(hm:m<=maxLen)(hk:k<=maxLen)(hi:∀i:Int,0<=i->i<k->i64 (gt B i).n/\i64 (gt B i).d){Q:Value->AHeap->Prop}
  (hQ:∀h',Ext h h'->Q (.bool true) h'):call 3 [.agg #[.slice aa m ac,.slice ba k bc]] h Q:=by
 refine hA.bodyR Try.func3 r3_ok (hA.alike _ _ _ rfl) hlow (zc ?_);refine Great_ok hA hlow hg (by unfold maxLen at hm;omega) (fun r hr=>⟨r,rfl,?_⟩);refine zq ?_;cases r with
 |true=>
  refine zq ?_;exact hQ h (.refl h)
 |false=>
 obtain⟨m4,k4,l4⟩:=hr rfl;have hl:∀i:Int,0<=i->i<m->(gt g i).length<=1000:=fun i i0 i1=>by have:=l4 i i0 i1;omega
 refine zq ?_;refine inv_is hA hlow hg hB (by omega) (by omega) hl hi (fun e1 h1 qa1 r1 qc1 l1 v1 t1 x1=>⟨_,_,_,_,rfl,?_⟩);refine zq ?_;refine rinv_is hA (x1.lowOK hlow) (hg.ext x1) (hB.ext x1) (by omega) (by omega) hl hi (fun e2 h2 qa2 r2 qc2 l2 v2 t2 x2=>⟨_,_,_,_,rfl,?_⟩);obtain⟨rfl,rfl⟩:=v1.uniq v2;have y2:=x1.trans x2;refine zq ?_;refine rel_is hA hI (y2.lowOK hlow) (hg.ext y2) (hB.ext y2) (by omega) (by omega) hl hi (fun e3 g3 h3 qa3 s3 w3 qc3 rb3 G3 v3 t3 x3=>⟨_,_,_,_,rfl,?_⟩);have y3:=y2.trans x3;refine zq ?_;refine rrel_is hA (y3.lowOK hlow) (hg.ext y3) (hB.ext y3) (by omega) (by omega) hl hi (fun e4 g4 h4 qa4 s4 w4 qc4 rb4 G4 v4 t4 x4=>⟨_,_,_,_,rfl,?_⟩);obtain⟨rfl,rfl,rfl,eG⟩:=v3.same v4;have y4:=y3.trans x4;have f1:=v1.few;have f3:=v3.few;obtain rfl:r1=r2:=by rw[<-t1.len,<-t2.len]
 have f5:=t1.len;obtain⟨X,eX⟩:∃z,z=bump h4 26:=⟨_,rfl⟩;have xb:Ext h4 X:=by rw[eX];exact ext_bump hA _ _
 have yX:=y4.trans xb;refine zc ?_;rw[<-eX];refine Check_ok hA (low_fresh hA X) (hg.ext (yX.trans (ext_fresh hA X))) (hB.ext (yX.trans (ext_fresh hA X))) (by omega) (by omega) hl hi (fun c1 u1 hc1 z1=>⟨c1,rfl,?_⟩);obtain⟨X1,eX1⟩:∃z,z=lowered X u1:=⟨_,rfl⟩;have w1:Ext h4 X1:=by rw[eX1];exact ext_low hA (y4.lowOK hlow) xb z1
 have yX1:=y4.trans w1;refine zq ?_;rw[<-eX1];refine rCheck_ok hA (low_fresh hA X1) (hg.ext (yX1.trans (ext_fresh hA X1))) (hB.ext (yX1.trans (ext_fresh hA X1))) (by omega) (by omega) hl hi (fun c2 u2 hc2 z2=>⟨c2,rfl,?_⟩);obtain rfl:=hc1.uniq hc2;obtain⟨X2,eX2⟩:∃z,z=lowered X1 u2:=⟨_,rfl⟩;have w2:Ext h4 X2:=by rw[eX2];exact ext_low hA (y4.lowOK hlow) w1 z2
 have yX2:=y4.trans w2;have ce:∀x:Int,cmp .eql x x=true:=fun x=>by rw[e_eql hA];simp
 have v2':Ext h2 (fresh X2):=x3.trans (x4.trans (w2.trans (ext_fresh hA X2)));refine zq ?_;rw[<-eX2,ce];refine zq ?_;refine sameInts_true hA (low_fresh hA X2) (t1.ext (x2.trans v2')) (t2.ext v2') (by omega) (fun u3 z3=>⟨_,rfl,?_⟩);obtain⟨X3,eX3⟩:∃z,z=lowered X2 u3:=⟨_,rfl⟩;have w3:Ext h4 X3:=by rw[eX3];exact ext_low hA (y4.lowOK hlow) w2 z3
 refine zq ?_;rw[ce];refine zq ?_;rw[<-eX3];have v4':Ext h4 (fresh X3):=w3.trans (ext_fresh hA X3);refine sameLists_true hA (low_fresh hA X3) (t3.more (x4.trans v4')) ((t4.more v4').congr (fun y x hy hx=>(eG y x hy hx).symm)) (by omega) (by omega) (fun u4 z4=>⟨_,rfl,?_⟩);obtain⟨X4,eX4⟩:∃z,z=lowered X3 u4:=⟨_,rfl⟩;have w4:Ext h4 X4:=by rw[eX4];exact ext_low hA (y4.lowOK hlow) w3 z4
 refine zq ?_;rw[ce];refine zq ?_;rw[<-eX4];exact hQ X4 (y4.trans w4)
