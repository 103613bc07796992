import Derived.Test.YtogliemiljhliaaRdM
set_option linter.unusedSimpArgs false
set_option linter.unusedVariables false
namespace Go.Proofs.Ytogliemiljhliaa
open Go.Sim
set_option maxRecDepth 100000
def bvec(S:St)(n c:Nat):List Fc:=lst (fun x=>if x=c then⟨1,1⟩else fillR S.R S.bound S.lead c (-1) S.bound.length x) n
def basTo(S:St)(n:Nat):Nat->List (List Fc)
 |0=>[]
 |c+1=>if c∈S.bound then basTo S n c else basTo S n c++[bvec S n c]
theorem basTo_len(S:St)(n:Nat):∀c,(basTo S n c).length<=c
 |0=>Nat.le_refl _
 |c+1=>by
  have:=basTo_len S n c;unfold basTo;split
  ·omega
  ·rw[List.length_append];simp only[List.length_singleton];omega
theorem bvec_len(S:St)(n c:Nat):(bvec S n c).length=n:=lst_len _ _
theorem run_bound{m:Nat}{S:St}(h:S.bound=[]):∀c,∀x,x∈(run m S c).bound->x<c
 |0,x,hx=>by
  have:x∈S.bound:=hx;rw[h]at this;cases this
 |c+1,x,hx=>by
  have ih:=run_bound (m:=m) h c;have hx:x∈(step m (run m S c) c).bound:=hx;unfold step at hx;split at hx
  ·split at hx
   ·have:=ih x hx;omega
   ·rcases List.mem_append.1 hx with q|q
    ·have:=ih x q;omega
    ·simp only[List.mem_singleton]at q;omega
  ·have:=ih x hx;omega
theorem run_few{m:Nat}{S:St}(h:S.bound.length<=m):∀c,(run m S c).bound.length<=m
 |0=>h
 |c+1=>by
  have ih:=run_few h c;show(step m (run m S c) c).bound.length<=m;unfold step;split
  ·split
   ·exact ih
   ·rw[List.length_append];simp only[List.length_singleton];omega
  ·exact ih
variable{F:Prims}{call head arith cmp scmp bnot bsame conv neg imax imin ofNat slen place inR nz geZ rd wr push next mkOK nat zeros sadd eqAgg cut slc sslc strAt part app cpy putAt fresh lowered bump wrote addN lt ne fpAll fpApp brk yn rng mget mput mnew bytes clr:_}(hA:AP F ⟨call,head,arith,cmp,scmp,bnot,bsame,conv,neg,imax,imin,ofNat,slen,place,inR,nz,geZ,rd,wr,push,next,mkOK,nat,zeros,sadd,eqAgg,cut,slc,sslc,strAt,part,app,cpy,putAt,fresh,lowered,bump,wrote,addN,lt,ne,fpAll,fpApp,brk,yn,rng,mget,mput,mnew,bytes,clr⟩)
include hA
set_option maxHeartbeats 1000000 in
theorem bas_loop{h0:AHeap}(hlow:h0.low<=h0.next){sb oa cp m cm n:Nat}{bs:Nat->Nat}{ba:Option Addr}{k cb:Nat}{S:St}{hs:AHeap}(M0:MatW iC 1 cp hs h0 oa bs m (n+1) S.R)(hR:Red h0 sb oa m cm n ba k cb S.lead)(hsb:sb<h0.next)(hba:Is h0 ba k (S.bound.map Int.ofNat))(hk:k<=m)(n100:n<100)(m100:m<=100)
  (hbn:∀x,x∈S.bound->x<n) (hl:S.lead≠0) (hl2:S.lead.natAbs<=1000000000) (hRb:∀i j,i<m->j<=n->(S.R i j).natAbs<=1000000000) {N:Int} (eN:N=n) {Q:Exit->SS->Prop}
  (hQ:∀(h':AHeap) ao K co bl,K=(basTo S n n).length->Apd h' 1 ao K co ((hds n bl (basTo S n n)).flatMap Hd.cells)->GrW fC 2 n h0 h' bl (basTo S n n)->Q (.exit 0) ⟨[(4,.slice ao K co)],0,[],h'⟩) :
  ∀(d c:Nat) (C:Int) (h:AHeap) (ao:Option Addr) (K co:Nat) (bl:List Nat),n-c=d->c<=n->C=c->K=(basTo S n c).length->Apd h 1 ao K co ((hds n bl (basTo S n c)).flatMap Hd.cells)->From h0.next ao->GrW fC 2 n h0 h bl (basTo S n c)->(∀ad,ao=some ad->ad.block∉bl)->
   head 39 4 0 ⟨[(3,.pointer (some ⟨sb,0,none⟩)),(4,.slice ao K co),(14,.int .i64 N),(15,.int .i64 C)],0,[],h⟩ Q:=by
 have lb:=hba.len;rw[List.length_map]at lb;intro d
 induction d with
 |zero=>
  intro c C h ao K co bl hd hc eC eK t hf g out;obtain rfl:c=n:=by omega
  refine hA.roundR Try.func39 r39_ok (zc ?_);refine br (C<N) (by rw[e_lss hA]) (fun q=>by omega) (fun _=>?_)<;>refine zc ?_;exact hQ h ao K co bl eK t g
 |succ d ih=>
 intro c C h ao K co bl hd hc eC eK t hf g out;have e:=g.ext;have red:=Own.ext hR e hsb;have r1:rd h sb (addN 0 2) 1 [.slice ba k cb]:=by rw[e_addN hA];exact rd_at hA (Own.readG red (o:=2) (n:=1) (Nat.le_of_ble_eq_true rfl))
 refine hA.roundR Try.func39 r39_ok (zc ?_);refine br (C<N) (by rw[e_lss hA]) (fun _=>?_) (fun q=>by omega)<;>refine zc ?_;refine zq ?_;refine contains_ok hA (e.lowOK hlow) (hba.ext e) (by omega) (fun r hr=>⟨_,rfl,?_⟩);have mem:C∈S.bound.map Int.ofNat↔c∈S.bound:=by
  rw[List.mem_map,eC];exact⟨fun⟨a,h1,h2⟩=>by cases h2;exact h1,fun h=>⟨c,h,rfl⟩⟩
 rw[mem]at hr;refine zc ?_;have hnx:basTo S n (c+1)=if c∈S.bound then basTo S n c else basTo S n c++[bvec S n c]:=rfl
 refine br (r=false) (by rw[e_bnot hA];cases r<;>rfl) (fun cb1=>?_) (fun cb1=>?_)<;>refine zc ?_
 rotate_left
 ·rw[add64 hA (by omega) (by omega)]
  have cb1:c∈S.bound:=hr.1 (by cases r with|true=>rfl|false=>exact absurd rfl cb1);rw[if_pos cb1]at hnx;rw[<-hnx]at eK t g;exact ih (c+1) (C+1) h ao K co bl (by omega) (by omega) (by omega) eK t hf g out
 have cb1:c∉S.bound:=fun q=>by rw[hr.2 q]at cb1;cases cb1
 rw[if_neg cb1]at hnx;refine zq ?_;refine fill_ok hA (e.lowOK hlow) (M0.more e) red (Nat.lt_of_lt_of_le hsb e.next) (hba.ext e) hk (col:=c) (by omega) (by omega) m100 (by omega) hbn hl hl2 (fun i hi=>hRb i c hi (by omega)) eC (.inr rfl) (fun h1 b v=>⟨_,_,_,rfl,?_⟩);obtain⟨h2,w2,v2,_⟩:=v.set (i:=c) (by omega) (⟨1,1⟩:Fc);have w2:wr h1 b (place 0 C 2) [.int .i64 1,.int .i64 1] h2:=wr_ok hA (by rw[eC];exact w2);refine zq ?_;have e2:=v2.ext;have Kl:=basTo_len S n c;refine appK_ok hA TFF hd_len (by omega) hd_ok (v:=⟨some ⟨b,0,none⟩,n,n⟩) (t.ext e2) (by omega) (fun b' h' ha hx hn' hb' hk'=>?_);generalize someCap 1 (K+1)=cc' at *;obtain⟨K',hk2⟩:∃z,z=K+1:=⟨_,rfl⟩;rw[<-hk2]at ha ⊢;refine zc ?_;rw[add64 hA (by omega) (by omega)];have bnew:b∉bl:=fun q=>by have:=g.ltr b q;have:=v2.old;omega
 have hB:hds n (bl++[b]) (basTo S n (c+1))=hds n bl (basTo S n c)++[⟨some ⟨b,0,none⟩,n,n⟩]:=by rw[hnx,hds_add g.len,bvec_len]
 have gw:=(g.more e2).add (b:=b) (r:=bvec S n c) (by
  unfold bvec;have:=v2.own;rw[<-lb]at this;exact this) (by have:=v2.old;have:=e.next;omega) v2.lt bnew
 rw[<-hnx]at gw;have x':=hx h0 (e.trans e2) hf;have tlt:=t.lt;have out':∀q,q∈bl++[b]->∀ad,ao=some ad->ad.block≠q:=fun q hq ad had e1=>by
  rcases List.mem_append.1 hq with z|z
  ·exact out ad had (by rw[e1];exact z)
  ·simp only[List.mem_singleton]at z;have:=tlt ad had;have:=v2.old;omega
 have gl:=gw.ltr;refine ih (c+1) (C+1) h' _ _ _ (bl++[b]) (by omega) (by omega) (by omega) (by rw[hnx,List.length_append];simp only[List.length_singleton];omega) (by rw[hB];exact ha) (fun ad q=>by cases q;have:=e.next;have:=e2.next;simp only;omega) (gw.keep x' (by omega) (fun q hq=>hk' q (gl q hq) (out' q hq))) (fun ad q z=>by cases q;have:=gl _ z;simp only at this;omega)
def basL(l:List Int):List (List Fc):=basTo (SE l (zrow (pairsL l.length).length)) (wid l) (wid l)
theorem basis_ok{h:AHeap}(hlow:h.low<=h.next){a:Option Addr}{N c:Nat}{l:List Int}(hl:Is h a N l)(ln:Line l)(ok:Okay l (zrow (pairsL l.length).length))(w100:wid l<50){Q:Value->AHeap->Prop}
  (hQ:∀h' ao K co hs,GrR fC 2 h' ao K hs (basL l)->K=(basL l).length->Ext h h'->Q (.slice ao K co) h'):call 39 [.slice a N c] h Q:=by
 have lN:=hl.len;have n5:=ln.n5;have n2:=ln.n2;have lM:=pairsL_len l.length n5;have hM1:0<(pairsL l.length).length/\(pairsL l.length).length<=10:=by
  rw[lM];have:l.length=2\/l.length=3\/l.length=4\/l.length=5:=by omega
  rcases this with e|e|e|e<;>rw[e]<;>decide
 refine hA.bodyR Try.func39 r39_ok (hA.alike _ _ _ rfl) hlow (zc ?_);refine pairs_ok hA hlow (by omega) (fun h2 ap M cp rp hM x2=>⟨_,_,_,rfl,?_⟩);have eM:M=(pairsL l.length).length:=by rw[<-rp.len,lN]
 refine zc ?_;rw[e_ofNat hA];refine⟨mk_ok hA (by omega) (Int.le_refl _) (by omega),?_⟩;refine zc ?_;rw[e_zeros hA,e_next hA,e_push hA,e_nat hA,show(Int.ofNat M).toNat=M from rfl,copies_int];have oP:=Own.push h2 1 ((zrow M).flatMap iC);have eP:=Ext.push h2 1 ((zrow M).flatMap iC);have nP:(h2.push 1 ((zrow M).flatMap iC)).next=h2.next+1:=rfl;generalize h2.push 1 ((zrow M).flatMap iC)=hP at *;have zl:(zrow M).length=M:=by unfold zrow;rw[List.length_replicate]
 have rz:Is hP (some ⟨h2.next,0,none⟩) M (zrow M):=by
  have:=Own.rows oP iC_len (by omega) (by omega);rw[zl]at this;exact this
 have y2:=x2.trans eP;rw[<-eM]at ok;refine reduce_ok hA (y2.lowOK hlow) (hl.ext y2) ln rz eM ok w100 (fun h3 oa bs ba nb cb n hn M3 B3 x3=>⟨_,_,_,_,_,_,_,_,rfl,?_⟩);have y3:=y2.trans x3;obtain⟨S,hS⟩:∃z,z=SE l (zrow M):=⟨_,rfl⟩;have hbas:basL l=basTo S n n:=by unfold basL;rw[hS,hn,eM]
 have hSr:S=run (pairsL l.length).length (S0 l (zrow M)) (wid l):=by rw[hS];rfl
 rw[<-hS]at M3 B3 ⊢;have okS:=ok (wid l) (Nat.le_refl _);rw[<-hSr]at okS;obtain⟨k1,hlead,k2,k3⟩:=okS;have lb:=B3.len;rw[List.length_map]at lb;obtain⟨L,hL⟩:∃z,z=S.lead:=⟨_,rfl⟩;obtain⟨Nn,hNn⟩:∃z:Int,z=(n:Nat):=⟨_,rfl⟩;obtain⟨cm,hcm⟩:∃z,z=someCap 1 M:=⟨_,rfl⟩;rw[<-hL,<-hNn,<-hcm];obtain⟨h4,w4,o4,r4⟩:=(Own.push h3 4 [.slice none 0 0,.int .i64 0,.slice none 0 0,.int .i64 0]).write (o:=0) (vs:=[.slice (some ⟨oa,0,none⟩) M cm,.int .i64 Nn,.slice ba nb cb,.int .i64 L]) (Nat.le_refl _);have w4:wr (push h3 4 [.slice none 0 0,.int .i64 0,.slice none 0 0,.int .i64 0]) (next h3) 0 [.slice (some ⟨oa,0,none⟩) M cm,.int .i64 Nn,.slice ba nb cb,.int .i64 L] h4:=by rw[e_push hA,e_next hA];exact wr_at hA w4
 have x4:Ext h3 h4:=r4.ext (.push h3 4 _) (Nat.le_refl _);have n4:h4.next=h3.next+1:=by rw[r4.next];rfl
 have red:Red h4 h3.next oa M cm n ba nb cb S.lead:=by rw[<-hL,<-hNn];exact o4
 have q1:rd h4 (next h3) (addN 0 1) 1 [.int .i64 Nn]:=by rw[e_addN hA,e_next hA,hNn];exact rd_at hA (Own.readG red (o:=1) (n:=1) (Nat.le_of_ble_eq_true rfl))
 refine zq ?_;have y4:=y3.trans x4;rw[e_next hA];refine bas_loop hA (y4.lowOK hlow) (M3.more x4) red (by omega) (B3.ext x4) (by omega) (by omega) (by omega) (fun x hx=>?_) k1 hlead (fun i j hi hj=>k3 i j (by omega) (by omega)) hNn (fun h5 ao K co bl hK a5 g5=>?_) n 0 0 h4 none 0 0 [] (by omega) (by omega) rfl rfl (by simpa[hds,basTo]using Apd.nil h4 1) (.none _) (by simpa[basTo]using (GrW.nil h4 fC_len (by omega))) (fun ad q=>by cases q)
 ·rw[hn]
  have:=run_bound (m:=(pairsL l.length).length) (S:=S0 l (zrow M)) rfl (wid l) x (by rw[<-hSr];exact hx);exact this
 refine zc ?_;refine hQ h5 ao K co (hds n bl (basTo S n n)) ?_ (by rw[hbas];exact hK) (y4.trans g5.ext);rw[hbas];have e:K=(hds n bl (basTo S n n)).length:=by rw[hds_len g5.len];exact hK
 exact g5.rd ⟨by have:=a5.cells;exact this,hd_len,by omega⟩
end Go.Proofs.Ytogliemiljhliaa
namespace Go.Proofs.Ytogliemiljhliaa
open Go.Sim
set_option maxRecDepth 100000
def one(z:Int):Fc:=⟨z,1⟩
variable{F:Prims}{call head arith cmp scmp bnot bsame conv neg imax imin ofNat slen place inR nz geZ rd wr push next mkOK nat zeros sadd eqAgg cut slc sslc strAt part app cpy putAt fresh lowered bump wrote addN lt ne fpAll fpApp brk yn rng mget mput mnew bytes clr:_}(hA:AP F ⟨call,head,arith,cmp,scmp,bnot,bsame,conv,neg,imax,imin,ofNat,slen,place,inR,nz,geZ,rd,wr,push,next,mkOK,nat,zeros,sadd,eqAgg,cut,slc,sslc,strAt,part,app,cpy,putAt,fresh,lowered,bump,wrote,addN,lt,ne,fpAll,fpApp,brk,yn,rng,mget,mput,mnew,bytes,clr⟩)
include hA
end Go.Proofs.Ytogliemiljhliaa
namespace Go.Proofs.Ytogliemiljhliaa
open Go.Sim
set_option maxRecDepth 100000
theorem cast_ne0{d:Int}(h:d≠0):(d:Rat)≠0:=fun w=>h (Rat.intCast_eq_zero_iff.1 w)
theorem rq_cancel{l a b:Int}(hl:l≠0)(hb:b≠0):rq (l*a) (l*b)=rq a b:=by
 have h1:=cast_ne0 hl;have h2:=cast_ne0 hb;unfold rq;rw[Rat.intCast_mul,Rat.intCast_mul];grind
variable{F:Prims}{call head arith cmp scmp bnot bsame conv neg imax imin ofNat slen place inR nz geZ rd wr push next mkOK nat zeros sadd eqAgg cut slc sslc strAt part app cpy putAt fresh lowered bump wrote addN lt ne fpAll fpApp brk yn rng mget mput mnew bytes clr:_}(hA:AP F ⟨call,head,arith,cmp,scmp,bnot,bsame,conv,neg,imax,imin,ofNat,slen,place,inR,nz,geZ,rd,wr,push,next,mkOK,nat,zeros,sadd,eqAgg,cut,slc,sslc,strAt,part,app,cpy,putAt,fresh,lowered,bump,wrote,addN,lt,ne,fpAll,fpApp,brk,yn,rng,mget,mput,mnew,bytes,clr⟩)
include hA
end Go.Proofs.Ytogliemiljhliaa
namespace Go.Proofs.Ytogliemiljhliaa
open Go.Sim
set_option maxRecDepth 100000
structure Fine(m n:Nat)(S:St):Prop where
 lead:S.lead≠0
 leadB:S.lead.natAbs<=1000000000
 few:S.bound.length<=m
 small:∀i j,i<m->j<=n->(S.R i j).natAbs<=1000000000
def Exact(m n:Nat)(S:St)(c:Nat):Prop:=∀k i,k=S.bound.length->k<m->pick S.R c (m-k) k=some i->∀y x,y<m->x<=n->y≠k->swp S.R k i k c*swp S.R k i y x-swp S.R k i y c*swp S.R k i k x=S.lead*clrF (swp S.R k i) k c S.lead y x
variable{F:Prims}{call head arith cmp scmp bnot bsame conv neg imax imin ofNat slen place inR nz geZ rd wr push next mkOK nat zeros sadd eqAgg cut slc sslc strAt part app cpy putAt fresh lowered bump wrote addN lt ne fpAll fpApp brk yn rng mget mput mnew bytes clr:_}(hA:AP F ⟨call,head,arith,cmp,scmp,bnot,bsame,conv,neg,imax,imin,ofNat,slen,place,inR,nz,geZ,rd,wr,push,next,mkOK,nat,zeros,sadd,eqAgg,cut,slc,sslc,strAt,part,app,cpy,putAt,fresh,lowered,bump,wrote,addN,lt,ne,fpAll,fpApp,brk,yn,rng,mget,mput,mnew,bytes,clr⟩)
include hA
