import Derived.Test.YtogliemiljhliaaRdA
import Derived.Test.YtogliemiljhliaaSrtB
import Derived.Test.YtogliemiljhliaaSymGr
set_option linter.unusedSimpArgs false
set_option linter.unusedVariables false
namespace Go.Proofs.Ytogliemiljhliaa
open Go.Sim
set_option maxRecDepth 100000
def upN(n:Int):List Int:=(List.range n.toNat).map Int.ofNat
theorem upN_succ{n:Int}(h:0<=n):upN (n+1)=upN n++[n]:=by
 unfold upN;rw[show(n+1).toNat=n.toNat+1 by omega,List.range_succ,List.map_append]
 congr 1
 show [Int.ofNat n.toNat]=[n]
 congr 1
 show((n.toNat:Nat):Int)=n;omega
theorem mem_upN{n x:Int}:x∈upN n↔0<=x/\x<n:=by
 unfold upN;rw[List.mem_map];constructor
 ·rintro⟨a,ha,rfl⟩
  have:=List.mem_range.1 ha;have e:Int.ofNat a=(a:Int):=rfl;omega
 ·rintro⟨h0,h1⟩
  exact⟨x.toNat,List.mem_range.2 (by omega),Int.toNat_of_nonneg h0⟩
structure P2 where
 i:Int
 j:Int
deriving instance DecidableEq for P2
instance:Inhabited P2:=⟨⟨0,0⟩⟩
def P2.cells(k:P2):List Value:=[.int .i64 k.i,.int .i64 k.j]
theorem p2_len(k:P2):k.cells.length=2:=rfl
theorem p2_ok(k:P2):k.cells.all cellOK=true:=rfl
theorem TP2:SliceT Try.prog 75 90 2:=⟨by kernel_rfl,by kernel_rfl,⟨16,by kernel_rfl,by omega⟩,⟨.agg #[.int .i64 0,.int .i64 0],by kernel_rfl,rfl⟩⟩
def pOne(i j:Int):List P2:=if i<j then [⟨i,j⟩] else []
def pRow(i k:Int):List P2:=(upN k).flatMap fun j=>pOne i j
def pUpTo(n m:Int):List P2:=(upN m).flatMap fun i=>pRow i n
def pairsL(n:Int):List P2:=pUpTo n n
theorem pRow_succ{i k:Int}(h:0<=k):pRow i (k+1)=pRow i k++pOne i k:=by
 unfold pRow;rw[upN_succ h,List.flatMap_append];simp
theorem pUpTo_succ{n m:Int}(h:0<=m):pUpTo n (m+1)=pUpTo n m++pRow m n:=by
 unfold pUpTo;rw[upN_succ h,List.flatMap_append];simp
theorem pRow_none{i:Int}:pRow i (i+1)=[]:=by
 unfold pRow;rw[List.flatMap_eq_nil_iff];intro j hj;have:=mem_upN.1 hj;unfold pOne;rw[if_neg (by omega)]
theorem mem_pairs{n:Int}{p:P2}:p∈pairsL n↔0<=p.i/\p.i<p.j/\p.j<n:=by
 unfold pairsL pUpTo pRow pOne;simp only[List.mem_flatMap,mem_upN];constructor
 ·rintro⟨i,⟨i0,i1⟩,j,⟨j0,j1⟩,h⟩
  split at h
  ·rename_i c
   simp only[List.mem_singleton]at h;subst h;exact⟨i0,c,j1⟩
  ·simp at h
 ·rintro⟨a,b,c⟩
  refine⟨p.i,⟨a,by omega⟩,p.j,⟨by omega,c⟩,?_⟩;rw[if_pos b];simp
theorem pRow_len(i:Int):∀k:Nat,(pRow i k).length<=k
 |0=>by simp[pRow,upN]
 |k+1=>by
  rw[show((k+1:Nat):Int)=(k:Int)+1 by omega,pRow_succ (by omega),List.length_append];have:=pRow_len i k;have:(pOne i k).length<=1:=by unfold pOne;split<;>simp
  omega
theorem pUpTo_len(n:Nat):∀m:Nat,(pUpTo n m).length<=n*m
 |0=>by simp[pUpTo,upN]
 |m+1=>by
  rw[show((m+1:Nat):Int)=(m:Int)+1 by omega,pUpTo_succ (by omega),List.length_append,Nat.mul_succ];have:=pUpTo_len n m;have:=pRow_len m n;omega
def diffOf(l:List Int)(p:P2):Int:=gt l p.j-gt l p.i
def diffs(l:List Int):List Int:=(pairsL l.length).map (diffOf l)
def clsL(l:List Int):List Int:=((upN 32).filter fun c=>decide (1<=c) && l.any fun x=>decide (x+c∈l))
theorem upN_lt(n:Int):(upN n).Pairwise (· < ·):=by
 unfold upN;rw[List.pairwise_map];refine(List.pairwise_lt_range (n:=n.toNat)).imp (fun {a b} h=>?_);exact Int.ofNat_lt.2 h
theorem clsL_lt(l:List Int):(clsL l).Pairwise (· < ·):=(upN_lt 32).filter _
theorem mem_clsL{l:List Int}{c:Int}:c∈clsL l↔(1<=c/\c<32)/\∃x,x∈l/\x+c∈l:=by
 unfold clsL;rw[List.mem_filter,mem_upN];simp only[Bool.and_eq_true,decide_eq_true_eq,List.any_eq_true];constructor
 ·rintro⟨⟨a,b⟩,c,d⟩;exact⟨⟨c,b⟩,d⟩
 ·rintro⟨⟨a,b⟩,d⟩;exact⟨⟨by omega,b⟩,a,d⟩
theorem mem_diffs{l:List Int}(hl:Line l){c:Int}:c∈diffs l↔c∈clsL l:=by
 unfold diffs;rw[List.mem_map,mem_clsL];constructor
 ·rintro⟨p,hp,rfl⟩
  obtain⟨a,b,d⟩:=mem_pairs.1 hp;have h1:=hl.mono a b d;have h2:=hl.rng (i:=p.i) a (by omega);have h3:=hl.rng (i:=p.j) (by omega) d;unfold diffOf;exact⟨by omega,gt l p.i,gt_mem l a (by omega),by rw[show gt l p.i+(gt l p.j-gt l p.i)=gt l p.j by omega];exact gt_mem l (by omega) d⟩
 ·rintro⟨⟨a,b⟩,x,hx,hxc⟩
  obtain⟨i,i0,i1,rfl⟩:=mem_gt hx;obtain⟨j,j0,j1,e⟩:=mem_gt hxc;have ij:i<j:=by
   rcases Int.lt_trichotomy i j with q|q|q
   ·exact q
   ·subst q;omega
   ·have:=hl.mono j0 q i1;omega
  exact⟨⟨i,j⟩,mem_pairs.2 ⟨i0,ij,j1⟩,by unfold diffOf;simp only;omega⟩
theorem eq_of_lt{lt:Int->Int->Prop}(asym:∀a b,lt a b->¬lt b a):∀(L M:List Int),L.Pairwise lt->M.Pairwise lt->(∀x,x∈L↔x∈M)->L=M
 | [],[],_,_,_=>rfl
 | [],b :: M,_,_,h=>by have:=(h b).2 (by simp);simp at this
 |a :: L,[],_,_,h=>by have:=(h a).1 (by simp);simp at this
 |a :: L,b :: M,hL,hM,h=>by
  obtain⟨l1,l2⟩:=List.pairwise_cons.1 hL;obtain⟨m1,m2⟩:=List.pairwise_cons.1 hM;have e:a=b:=by
   rcases List.mem_cons.1 ((h a).1 (by simp))with q|q
   ·exact q
   ·rcases List.mem_cons.1 ((h b).2 (by simp))with r|r
    ·exact r.symm
    ·exact absurd (l1 b r) (asym _ _ (m1 a q))
  subst e;rw[eq_of_lt asym L M l2 m2 (fun x=>⟨fun q=>?_,fun q=>?_⟩)]
  ·rcases List.mem_cons.1 ((h x).1 (List.mem_cons_of_mem _ q))with r|r
   ·have:=l1 x q;rw[r]at this;exact absurd this (asym _ _ this)
   ·exact r
  ·rcases List.mem_cons.1 ((h x).2 (List.mem_cons_of_mem _ q))with r|r
   ·have:=m1 x q;rw[r]at this;exact absurd this (asym _ _ this)
   ·exact r
theorem strict_pair{L:List Int}{n:Nat}(hn:L.length=n)(h:StrictI L 0 n):L.Pairwise (· < ·):=by
 rw[List.pairwise_iff_getElem];intro i j hi hj ij;have:=h i j (by omega) (by omega) (by omega);unfold gt at this;rw[Int.toNat_natCast,Int.toNat_natCast,List.getD_eq_getElem?_getD,List.getD_eq_getElem?_getD,List.getElem?_eq_getElem hi,List.getElem?_eq_getElem hj]at this;exact this
theorem cls_eq{l W:List Int}{n:Nat}(hl:Line l)(hn:W.length=n)(h:StrictI W 0 n)(m:∀x,x∈W↔x∈diffs l):W=clsL l:=
 eq_of_lt (lt:=(· < ·)) (fun a b q w=>by omega) W (clsL l) (strict_pair hn h) (clsL_lt l) (fun x=>(m x).trans (mem_diffs hl))
theorem diffs_ne{l:List Int}(hl:Line l):1<=(diffs l).length:=by
 have:(⟨0,1⟩:P2)∈pairsL l.length:=mem_pairs.2 ⟨by simp only;omega,by simp only;omega,by simp only;have:=hl.n2;omega⟩;unfold diffs;rw[List.length_map];exact List.length_pos_of_mem this
theorem pairs_few{n:Nat}(h:n<=5):(pairsL n).length<=10:=by
 have:n=0\/n=1\/n=2\/n=3\/n=4\/n=5:=by omega
 rcases this with rfl|rfl|rfl|rfl|rfl|rfl<;>decide
variable{F:Prims}{call head arith a0 b0 c0 d0 e0 f0 g0 k0 ofNat l0 m0 n0 nz o0 rd wr r0 next s0 t0 u0 v0 x0 y0 z0 a1 b1 c1 f1 n1 putAt o1 lowered bump q1 addN lt ne r1 s1 t1 yn rng u1 v1 y1 z1 a2:_}(hA:AP F ⟨call,head,arith,a0,b0,c0,d0,e0,f0,g0,k0,ofNat,l0,m0,n0,nz,o0,rd,wr,r0,next,s0,t0,u0,v0,x0,y0,z0,a1,b1,c1,f1,n1,putAt,o1,lowered,bump,q1,addN,lt,ne,r1,s1,t1,yn,rng,u1,v1,y1,z1,a2⟩)
include hA
theorem pairs_inner{h0:AHeap}(hlow:h0.low<=h0.next){a:Option Addr}{N c:Nat}(hN:N<=5){i:Int}(i0:0<=i)(i1:i<N){NN:Int}{L:List P2}(hL:L.length<=100){Q:Exit->SS->Prop}
  (hok:∀h' ao k co,Apd h' 2 ao k co ((L++pRow i N).flatMap P2.cells)->From h0.next ao->k=(L++pRow i N).length->Ext h0 h'->Q (.exit 2) ⟨[(0,.slice a N c),(3,.slice ao k co),(7,.int .i64 NN),(8,.int .i64 i)],0,[],h'⟩) :
  ∀(m:Nat) (j:Int) (h:AHeap) (ao:Option Addr) (k co:Nat),(N-j).toNat<=m->i<j->j<=N->Apd h 2 ao k co ((L++pRow i j).flatMap P2.cells)->From h0.next ao->k=(L++pRow i j).length->Ext h0 h->
   head 44 6 0 ⟨[(0,.slice a N c),(3,.slice ao k co),(4,.int .i64 i),(5,.int .i64 j),(7,.int .i64 NN),(8,.int .i64 i)],0,[],h⟩ Q:=by
 intro m
 induction m with
 |zero=>
  intro j h ao k co hm j0 j1 t hf hk he;refine hA.roundR Try.func44 r44_ok (zc ?_);refine br (j<N) (by rw[e_lss hA,e_ofNat hA]) (fun q=>by omega) (fun _=>?_)<;>refine zc ?_;obtain rfl:j=N:=by omega
  exact hok h ao k co t hf hk he
 |succ m ih=>
 intro j h ao k co hm j0 j1 t hf hk he;refine hA.roundR Try.func44 r44_ok (zc ?_);refine br (j<N) (by rw[e_lss hA,e_ofNat hA]) (fun cj=>?_) (fun _=>?_)<;>refine zc ?_
 rotate_left
 ·obtain rfl:j=N:=by omega
  exact hok h ao k co t hf hk he
 have kb:k<=1000:=by
  rw[hk,List.length_append];have:=pRow_len i j.toNat;rw[show((j.toNat:Nat):Int)=j by omega]at this;omega
 refine appK_ok hA TP2 p2_len (by omega) p2_ok (v:=⟨i,j⟩) t (by omega) (fun b' h' ha hx hn' hb' hk'=>?_);generalize someCap 2 (k+1)=cc' at *;obtain⟨k',hk2⟩:∃z,z=k+1:=⟨_,rfl⟩;rw[<-hk2]at ha ⊢;refine zc ?_;rw[add64 hA (by omega) (by omega)];have e1:L++pRow i (j+1)=L++pRow i j++[⟨i,j⟩]:=by
  rw[pRow_succ (by omega),List.append_assoc];unfold pOne;rw[if_pos j0]
 refine ih (j+1) h' _ _ _ (by omega) (by omega) (by omega) (by rw[e1];exact ha) (fun ad e=>by cases e;have:=he.next;simp only;omega) (by rw[e1,List.length_append,<-hk,hk2];rfl) (hx h0 he hf)
theorem pairs_outer{h0:AHeap}(hlow:h0.low<=h0.next){a:Option Addr}{N c:Nat}(hN:N<=5){NN:Int}(hNN:NN=N){Q:Exit->SS->Prop}
  (hok:∀h' ao k co,Apd h' 2 ao k co ((pairsL N).flatMap P2.cells)->k=(pairsL N).length->From h0.next ao->Ext h0 h'->Q (.exit 0) ⟨[(3,.slice ao k co)],0,[],h'⟩) :
  ∀(m:Nat) (i:Int) (h:AHeap) (ao:Option Addr) (k co:Nat),(N-i).toNat<=m->0<=i->i<=N->Apd h 2 ao k co ((pUpTo N i).flatMap P2.cells)->From h0.next ao->k=(pUpTo N i).length->Ext h0 h->
   head 44 3 0 ⟨[(0,.slice a N c),(3,.slice ao k co),(7,.int .i64 NN),(8,.int .i64 i)],0,[],h⟩ Q:=by
 intro m
 induction m with
 |zero=>
  intro i h ao k co hm i0 i1 t hf hk he;refine hA.roundR Try.func44 r44_ok (zc ?_);refine br (i<NN) (by rw[e_lss hA]) (fun q=>by omega) (fun _=>?_)<;>refine zc ?_;obtain rfl:i=N:=by omega
  exact hok h ao k co t hk hf he
 |succ m ih=>
 intro i h ao k co hm i0 i1 t hf hk he;refine hA.roundR Try.func44 r44_ok (zc ?_);refine br (i<NN) (by rw[e_lss hA]) (fun ci=>?_) (fun _=>?_)<;>refine zc ?_
 rotate_left
 ·obtain rfl:i=N:=by omega
  exact hok h ao k co t hk hf he
 have lb:=pUpTo_len N i.toNat;rw[show((i.toNat:Nat):Int)=i by omega]at lb;have lb2:N*i.toNat<=5*5:=Nat.mul_le_mul hN (by omega);rw[add64 hA (by omega) (by omega)];refine pairs_inner hA hlow hN i0 (by omega) (L:=pUpTo N i) (by omega) (fun h' ao' k' co' t' hf' hk' he'=>?_) N (i+1) h ao k co (by omega) (by omega) (by omega) (by rw[pRow_none,List.append_nil];exact t) hf (by rw[pRow_none,List.append_nil];exact hk) he;refine zc ?_;rw[add64 hA (by omega) (by omega)];exact ih (i+1) h' ao' k' co' (by omega) (by omega) (by omega) (by rw[pUpTo_succ i0];exact t') hf' (by rw[pUpTo_succ i0];exact hk') he'
theorem pairs_ok{h:AHeap}(hlow:h.low<=h.next){a:Option Addr}{N c:Nat}(hN:N<=5){Q:Value->AHeap->Prop}
  (hQ:∀h' ao k co,Rows P2.cells 2 h' ao k (pairsL N)->k<=10->Ext h h'->Q (.slice ao k co) h'):call 44 [.slice a N c] h Q:=by
 refine hA.bodyR Try.func44 r44_ok (hA.alike _ _ _ rfl) hlow (zc ?_);rw[e_ofNat hA];refine pairs_outer hA hlow hN rfl (fun h' ao k co t hk hf x'=>?_) N 0 h none 0 0 (by omega) (by omega) (by omega) (.nil _ _) (.none _) rfl (.refl h);refine zc ?_;exact hQ h' ao k co ⟨t.cells,p2_len,by omega⟩ (by rw[hk];exact pairs_few hN) x'
theorem cls_loop{h0:AHeap}(hlow:h0.low<=h0.next){a:Option Addr}{N c:Nat}{l:List Int}(hl:Is h0 a N l)(ln:Line l){ap:Option Addr}{M cp:Nat}(hp:Rows P2.cells 2 h0 ap M (pairsL N))(hM:M<=10){MM:Int}(hMM:MM=M){Q:Exit->SS->Prop}
  (hok:∀h' ao co kn K,Apd h' 1 ao M co ((diffs l).flatMap iC)->From h0.next ao->Ext h0 h'->Q (.exit 0) ⟨[(3,.slice ao M co)],kn,K,h'⟩) :
  ∀(m:Nat) (k:Nat) (h:AHeap) (ao:Option Addr) (co:Nat),M-k<=m->k<=M->Apd h 1 ao k co (((diffs l).take k).flatMap iC)->From h0.next ao->Ext h0 h->
   head 35 3 0 ⟨[(0,.slice a N c),(3,.slice ao k co),(7,.slice ap M cp),(8,.int .i64 MM),(9,.int .i64 k)],0,[],h⟩ Q:=by
 have lN:=hl.len;have lM:=hp.len;have lD:(diffs l).length=M:=by unfold diffs;rw[List.length_map,lN,lM]
 intro m
 induction m with
 |zero=>
  intro k h ao co hm hk t hf he;obtain⟨K,hK⟩:∃z:Int,z=k:=⟨_,rfl⟩;rw[<-hK];refine hA.roundR Try.func35 r35_ok (zc ?_);refine br (K<MM) (by rw[e_lss hA]) (fun q=>by omega) (fun _=>?_)<;>refine zc ?_;obtain rfl:k=M:=by omega
  rw[List.take_of_length_le (by omega)]at t;exact hok h ao co _ _ t hf he
 |succ m ih=>
 intro k h ao co hm hk t hf he;obtain⟨K,hK⟩:∃z:Int,z=k:=⟨_,rfl⟩;rw[<-hK];by_cases ck:k<M
 rotate_left
 ·refine hA.roundR Try.func35 r35_ok (zc ?_)
  refine br (K<MM) (by rw[e_lss hA]) (fun q=>by omega) (fun _=>?_)<;>refine zc ?_;obtain rfl:k=M:=by omega
  rw[List.take_of_length_le (by omega)]at t;exact hok h ao co _ _ t hf he
 obtain⟨pb,po,ep,lpb,wp⟩:=(hp.ext he).at (i:=K) (by omega) (by omega);subst ep;have w0:=wp 0 2 (by omega) (by omega);obtain⟨pi,pj,hg⟩:∃x y,gt (pairsL N) K=⟨x,y⟩:=⟨_,_,rfl⟩;have pm:=mem_pairs.1 (gt_mem (pairsL N) (i:=K) (by omega) (by omega));rw[hg]at w0 pm;have w0:h.readG ⟨pb,po+K.toNat*2,none⟩ 2=some [.int .i64 pi,.int .i64 pj]:=w0;have q0:=rd_ok hA w0;simp only at pm;obtain⟨p0,p1,p2⟩:=pm;obtain⟨h9,hh9⟩:∃z,z=bump h 15:=⟨_,rfl⟩;have x9:Ext h h9:=by rw[hh9];exact ext_bump hA _ _
 have e9:=he.trans x9;obtain⟨lb,lo,y,ea,_,hy,ry⟩:=is_at (hl.ext e9) (i:=pj) (by omega) (by omega);subst ea;obtain⟨lb',lo',x,ea,_,hx,rx⟩:=is_at (hl.ext e9) (i:=pi) (by omega) (by omega);cases ea;have qy:=rd_ok hA ry;have qx:=rd_ok hA rx;have g1:=ln.rng (i:=pi) p0 (by omega);have g2:=ln.rng (i:=pj) (by omega) (by omega);have es:arith .sub .i64 y x=y-x:=sub64 hA (by omega) (by omega);obtain⟨d,hd⟩:∃z,z=y-x:=⟨_,rfl⟩;rw[<-hd]at es;refine hA.roundR Try.func35 r35_ok (zc ?_);refine br (K<MM) (by rw[e_lss hA]) (fun _=>?_) (fun q=>by omega)<;>refine zc ?_;refine zq ?_;rw[<-hh9]
 (refine zq ?_;repeat ((first|rw[es]);refine zq ?_))
 refine appD_ok hA TI iC_len (by omega) iC_ok hlow he (by omega) hh9 (v:=d) t hf (by omega) (fun a' c' h' hp' hf' x'=>?_);obtain⟨hZ,hhZ⟩:∃z,z=lowered (putAt h9 (addN (next h) 12) 1 (iC d)) h':=⟨_,rfl⟩;rw[<-hhZ]at hp' x';have hhZ':hZ=lowered (putAt h9 (addN (next h) 12) 1 [.int .i64 d]) h':=hhZ;obtain⟨k',hk2⟩:∃z,z=k+1:=⟨_,rfl⟩;rw[<-hk2]at hp' ⊢;refine zc ?_;rw[<-hhZ'];rw[add64 hA (by omega) (by omega),show K+1=((k':Nat):Int) by omega];refine ih k' hZ a' c' (by omega) (by omega) ?_ hf' x';have e1:(diffs l).take k'=(diffs l).take k++[d]:=by
  have:=gt_take (diffs l) (i:=K) (by omega) (by omega);rw[show(K+1).toNat=k' by omega,show K.toNat=k by omega]at this;rw[this]
  congr 2
  unfold diffs;rw[gt_map (diffOf l) _ (by omega) (by rw[lN];omega),lN,hg];unfold diffOf;simp only;omega
 rw[e1];exact hp'
theorem cls_ok{h:AHeap}(hlow:h.low<=h.next){a:Option Addr}{N c:Nat}{l:List Int}(hl:Is h a N l)(ln:Line l){Q:Value->AHeap->Prop}
  (hQ:∀h' b k co,Is h' (some ⟨b,0,none⟩) k (clsL l)->1<=k->k<=10->h.next<=b->Ext h h'->Q (.slice (some ⟨b,0,none⟩) k co) h'):call 35 [.slice a N c] h Q:=by
 have lN:=hl.len;have n5:=ln.n5;refine hA.bodyR Try.func35 r35_ok (hA.alike _ _ _ rfl) hlow (zc ?_);refine pairs_ok hA hlow (by omega) (fun h1 ap M cp rp hM x1=>⟨_,_,_,rfl,?_⟩);refine zc ?_;rw[e_ofNat hA];refine cls_loop hA (x1.lowOK hlow) (hl.ext x1) ln rp hM rfl (fun h2 ao co kn K t hf x2=>?_) M 0 h1 none 0 (by omega) (by omega) (by simpa using Apd.nil h1 1) (.none _) (.refl h1);have lD:(diffs l).length=M:=by unfold diffs;rw[List.length_map,lN,rp.len]
 have d1:=diffs_ne ln;rcases t with ⟨_,q,_⟩|⟨b,rfl,rfl,w1,w2,w3⟩
 ·omega
 have hb:=hf _ rfl;simp only at hb;have D:DatI h1 h2 b M (diffs l):=⟨x2,w3,hb,w1,lD,by omega⟩;obtain⟨cap,hcap⟩:∃z,z=someCap 1 M:=⟨_,rfl⟩;rw[<-hcap];refine zc ?_;refine sortI_few hA (x1.lowOK hlow) (by omega) D (fun h3 L3 t3 p3 s3=>?_);refine zc ?_;refine compactI_ok hA (x1.lowOK hlow) hcap (by omega) t3 s3 (fun h4 W k k1 kM x4 r4 st m4=>⟨_,_,_,rfl,?_⟩);refine zc ?_;have e:W=clsL l:=cls_eq ln r4.len st (fun x=>by rw[m4 x,p3.mem]);rw[e]at r4;exact hQ h4 b k cap r4 k1 (by omega) (by have:=x1.next;omega) (x1.trans x4)
