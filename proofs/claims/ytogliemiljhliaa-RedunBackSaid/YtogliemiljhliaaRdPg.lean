import Derived.Test.YtogliemiljhliaaRdM
import Derived.Test.YtogliemiljhliaaSymD
import Derived.Test.YtogliemiljhliaaFracA
import Derived.KernelRfl
set_option linter.unusedSimpArgs false
set_option linter.unusedVariables false
namespace Go.Proofs.Ytogliemiljhliaa
open Go.Sim
set_option maxRecDepth 100000
def smallF(x:Fc):Prop:=okF x.n x.d/\x.d<=1000/\-1000000<=x.n/\x.n<=1000000
def smalls(l:List Fc):Prop:=∀i:Int,0<=i->i<l.length->smallF (gt l i)
def inI(l:List Fc):Prop:=∀i:Int,0<=i->i<l.length->i64 (gt l i).n/\i64 (gt l i).d
def vq(x:Fc):Rat:=rq x.n x.d
theorem smallF.is{x:Fc}(h:smallF x):isF x.n x.d (vq x):=h.1.is
theorem smallF.bnd{x:Fc}(h:smallF x):bnd (vq x) 1000000 1000:=by
 obtain⟨e1,e2,_⟩:=h.is;obtain⟨h1,h2,h3,h4⟩:=h;unfold Proofs.Ytogliemiljhliaa.bnd;omega
def asF(q:Rat):Fc:=⟨q.num,q.den⟩
theorem asF_is{n d:Int}{q:Rat}(h:isF n d q):(⟨n,d⟩:Fc)=asF q:=by rw[h.1,h.2.1];rfl
def predQ(l:List Int)(g s:List Fc)(p:P2):Rat:=vq (gt g p.i)-vq (gt g p.j)+vq (gt s (ixI (clsL l) (diffOf l p)))
def predF(l:List Int)(g s:List Fc)(p:P2):Fc:=asF (predQ l g s p)
def predL(l:List Int)(g s:List Fc):List Fc:=(pairsL l.length).map (predF l g s)
def predOk(l:List Int)(g s:List Fc):Prop:=g.length=l.length/\s.length=(clsL l).length/\smalls g/\smalls s
def PredIs(l:List Int)(g s:List Fc)(e:Int)(out:List Fc):Prop:=
 (CheckL l e/\e≠0/\out=[])\/(Line l/\¬predOk l g s/\e=2/\out=[])\/(Line l/\predOk l g s/\e=0/\out=predL l g s)
theorem Line.chk{l:List Int}(ln:Line l):CheckL l 0:=.inr (.inr (.inr ⟨⟨ln.n2,ln.n5⟩,ln.good,rfl⟩))
theorem sub_small{x y:Fc}(hx:smallF x)(hy:smallF y):bnd (vq x-vq y) 2000000000 1000000:=hx.bnd.sub hy.bnd
theorem pred_small{x y z:Fc}(hx:smallF x)(hy:smallF y)(hz:smallF z):bnd (vq x-vq y+vq z) 3000000000000 1000000000:=(sub_small hx hy).add hz.bnd
theorem sub_fits{x y:Fc}(hx:smallF x)(hy:smallF y):fits (vq x-vq y):=(sub_small hx hy).fits (by decide) (by decide)
theorem pred_fits{x y z:Fc}(hx:smallF x)(hy:smallF y)(hz:smallF z):fits (vq x-vq y+vq z):=(pred_small hx hy hz).fits (by decide) (by decide)
variable{F:Prims}{call head arith cmp scmp bnot bsame conv neg imax imin ofNat slen place inR nz geZ rd wr push next mkOK nat zeros sadd eqAgg cut slc sslc strAt part app cpy putAt fresh lowered bump wrote addN lt ne fpAll fpApp brk yn rng mget mput mnew bytes clr:_}(hA:AP F ⟨call,head,arith,cmp,scmp,bnot,bsame,conv,neg,imax,imin,ofNat,slen,place,inR,nz,geZ,rd,wr,push,next,mkOK,nat,zeros,sadd,eqAgg,cut,slc,sslc,strAt,part,app,cpy,putAt,fresh,lowered,bump,wrote,addN,lt,ne,fpAll,fpApp,brk,yn,rng,mget,mput,mnew,bytes,clr⟩)
include hA
theorem small_loop{h0:AHeap}(hlow:h0.low<=h0.next){a:Option Addr}{M cp:Nat}{l:List Fc}(hl:Rows fC 2 h0 a M l)(hi:inI l)(hM:M<=100000){Q:Exit->SS->Prop}
  (hret:∀h,¬smalls l->Ext h0 h->∀e kn T,Q .ret ⟨(2,.bool false) :: e,kn,T,h⟩)
  (h9:∀h kn T,smalls l->Ext h0 h->Q (.exit 0) ⟨[],kn,T,h⟩) :
  ∀(d:Nat) (i:Int) (h:AHeap),(M-i).toNat=d->0<=i->i<=M->(∀j:Int,0<=j->j<i->smallF (gt l j))->Ext h0 h->
   head 34 2 0 ⟨[(0,.slice a M cp),(3,.int .i64 i)],0,[],h⟩ Q:=by
 have lM:=hl.len;intro d
 induction d with
 |zero=>
  intro i h hd i0 i1 hp he;refine hA.roundR Try.func34 r34_ok (zc ?_);refine br (i<(M:Int)) (by rw[e_lss hA,e_ofNat hA]) (fun q=>by omega) (fun _=>?_)<;>refine zc ?_;exact h9 h _ _ (fun j j0 j1=>hp j j0 (by omega)) he
 |succ d ih=>
 intro i h hd i0 i1 hp he;obtain⟨pb,po,ea,_,rr⟩:=(hl.ext he).at (i:=i) i0 (by omega);subst ea;obtain⟨n,dd,hx⟩:∃x y,gt l i=⟨x,y⟩:=⟨_,_,rfl⟩;obtain⟨in1,in2⟩:=hi i i0 (by omega);rw[hx]at in1 in2;simp only at in1 in2;have r1:=rr 0 2 (by omega) (by omega);rw[hx]at r1;have r1:rd h pb (place po i 2) 2 [.int .i64 n,.int .i64 dd]:=rd_ok hA r1;have no:¬smallF ⟨n,dd⟩->¬smalls l:=fun w q=>w (by rw[<-hx];exact q i i0 (by omega))
 refine hA.roundR Try.func34 r34_ok (zc ?_);refine br (i<(M:Int)) (by rw[e_lss hA,e_ofNat hA]) (fun _=>?_) (fun q=>by omega)<;>refine zc ?_;refine zq ?_;refine rcheck_ok hA (he.lowOK hlow) in1 in2 (fun e h1 k1 x1=>⟨_,rfl,?_⟩);have e1:=he.trans x1;obtain⟨pb',po',ea',_,rr'⟩:=(hl.ext e1).at (i:=i) i0 (by omega);cases ea';have q0:=rr' 0 1 (by omega) (by omega);have q1:=rr' 1 1 (by omega) (by omega);rw[hx]at q0 q1;have q0:rd h1 pb (addN (place po i 2) 0) 1 [.int .i64 n]:=rd_fld hA q0;have q1:rd h1 pb (addN (place po i 2) 1) 1 [.int .i64 dd]:=rd_fld hA q1;refine zq ?_;refine br (e≠0) (by rw[e_neq hA]) (fun c1=>?_) (fun c1=>?_)<;>refine zc ?_
 ·refine zq ?_
  exact hret h1 (no (fun w=>by rcases k1 with ⟨q,_⟩|⟨_,q⟩;exact c1 q;exact q w.1)) e1 _ _ _
 have hok:okF n dd:=by rcases k1 with ⟨_,q⟩|⟨q,_⟩;exact q;omega
 refine zq ?_;refine br (1000<dd) (by rw[e_gtr hA]) (fun c2=>?_) (fun c2=>?_)<;>refine zc ?_
 ·refine zq ?_
  exact hret h1 (no (fun w=>by have:=w.2.1;simp only at this;omega)) e1 _ _ _
 refine zq ?_;refine br (1000000<n) (by rw[e_gtr hA]) (fun c3=>?_) (fun c3=>?_)<;>refine zc ?_
 ·refine zq ?_
  exact hret h1 (no (fun w=>by have:=w.2.2.2;simp only at this;omega)) e1 _ _ _
 refine zq ?_;refine br (n < -1000000) (by rw[e_lss hA]) (fun c4=>?_) (fun c4=>?_)<;>refine zc ?_
 ·refine zq ?_
  exact hret h1 (no (fun w=>by have:=w.2.2.1;simp only at this;omega)) e1 _ _ _
 refine zq ?_;rw[add64 hA (by omega) (by omega)];exact ih (i+1) h1 (by omega) (by omega) (by omega) (fun j j0 j1=>by
  by_cases e:j=i
  ·rw[e,hx];exact⟨hok,by simp only;omega,by simp only;omega,by simp only;omega⟩
  ·exact hp j j0 (by omega)) e1
theorem small_ok31{h:AHeap}(hlow:h.low<=h.next){a:Option Addr}{M cp:Nat}{l:List Fc}(hl:Rows fC 2 h a M l)(hi:inI l)(hM:M<=100000){Q:Value->AHeap->Prop}
  (hQ:∀(r:Bool) h',(r=true↔smalls l)->Ext h h'->Q (.bool r) h'):call 34 [.slice a M cp] h Q:=by
 refine hA.bodyR Try.func34 r34_ok (hA.alike _ _ _ rfl) hlow (zc ?_);refine small_loop hA hlow hl hi hM (fun h' w e _ _ _=>?_) (fun h' _ _ w e=>?_) M 0 h (by omega) (by omega) (by omega) (fun j j0 j1=>by omega) (.refl h)
 ·refine zc ?_
  exact hQ false h' ⟨fun q=>(by cases q),fun q=>absurd q w⟩ e
 ·refine zc ?_
  exact hQ true h' ⟨fun _=>w,fun _=>rfl⟩ e
theorem fits_loop{h0:AHeap}(hlow:h0.low<=h0.next){a:Option Addr}{M cp:Nat}{l:List Fc}(hl:Rows fC 2 h0 a M l)(hi:inI l)(hM:M<=100000){MM:Int}(eM:MM=M){Q:Exit->SS->Prop}
  (hret:∀h,¬smalls l->Ext h0 h->∀e kn T,Q .ret ⟨(4,.bool false) :: e,kn,T,h⟩)
  (h9:∀h kn T,smalls l->Ext h0 h->Q (.exit 0) ⟨[],kn,T,h⟩) :
  ∀(d:Nat) (i:Int) (h:AHeap),(M-i).toNat=d->0<=i->i<=M->(∀j:Int,0<=j->j<i->smallF (gt l j))->Ext h0 h->
   head 50 4 0 ⟨[(11,.slice a M cp),(12,.int .i64 MM),(13,.int .i64 i)],0,[],h⟩ Q:=by
 have lM:=hl.len;intro d
 induction d with
 |zero=>
  intro i h hd i0 i1 hp he;refine hA.roundR Try.func50 r50_ok (zc ?_);refine br (i<MM) (by rw[e_lss hA]) (fun q=>by omega) (fun _=>?_)<;>refine zc ?_;exact h9 h _ _ (fun j j0 j1=>hp j j0 (by omega)) he
 |succ d ih=>
 intro i h hd i0 i1 hp he;obtain⟨pb,po,ea,_,rr⟩:=(hl.ext he).at (i:=i) i0 (by omega);subst ea;obtain⟨n,dd,hx⟩:∃x y,gt l i=⟨x,y⟩:=⟨_,_,rfl⟩;obtain⟨in1,in2⟩:=hi i i0 (by omega);rw[hx]at in1 in2;simp only at in1 in2;have r1:=rr 0 2 (by omega) (by omega);rw[hx]at r1;have r1:rd h pb (place po i 2) 2 [.int .i64 n,.int .i64 dd]:=rd_ok hA r1;have no:¬smallF ⟨n,dd⟩->¬smalls l:=fun w q=>w (by rw[<-hx];exact q i i0 (by omega))
 refine hA.roundR Try.func50 r50_ok (zc ?_);refine br (i<MM) (by rw[e_lss hA]) (fun _=>?_) (fun q=>by omega)<;>refine zc ?_;refine zq ?_;refine check_ok hA (he.lowOK hlow) in1 in2 (fun e h1 k1 x1=>⟨_,rfl,?_⟩);have e1:=he.trans x1;refine zq ?_;refine br (e≠0) (by rw[e_neq hA]) (fun c1=>?_) (fun c1=>?_)<;>refine zc ?_
 ·refine zq ?_
  exact hret h1 (no (fun w=>by rcases k1 with ⟨q,_⟩|⟨_,q⟩;exact c1 q;exact q w.1)) e1 _ _ _
 have hok:okF n dd:=by rcases k1 with ⟨_,q⟩|⟨q,_⟩;exact q;omega
 refine zq ?_;refine br (1000<dd) (by rw[e_gtr hA]) (fun c2=>?_) (fun c2=>?_)<;>refine zc ?_
 ·refine zq ?_
  exact hret h1 (no (fun w=>by have:=w.2.1;simp only at this;omega)) e1 _ _ _
 refine zq ?_;refine br (n < -1000000) (by rw[e_lss hA]) (fun c4=>?_) (fun c4=>?_)<;>refine zc ?_
 ·refine zq ?_
  exact hret h1 (no (fun w=>by have:=w.2.2.1;simp only at this;omega)) e1 _ _ _
 refine zq ?_;refine br (1000000<n) (by rw[e_gtr hA]) (fun c3=>?_) (fun c3=>?_)<;>refine zc ?_
 ·refine zq ?_
  exact hret h1 (no (fun w=>by have:=w.2.2.2;simp only at this;omega)) e1 _ _ _
 refine zq ?_;rw[add64 hA (by omega) (by omega)];exact ih (i+1) h1 (by omega) (by omega) (by omega) (fun j j0 j1=>by
  by_cases e:j=i
  ·rw[e,hx];exact⟨hok,by simp only;omega,by simp only;omega,by simp only;omega⟩
  ·exact hp j j0 (by omega)) e1
theorem rfits_ok31{h:AHeap}(hlow:h.low<=h.next){a:Option Addr}{M cp:Nat}{l:List Fc}(hl:Rows fC 2 h a M l)(hi:inI l)(hM:M<=100000){m:Int}{Q:Value->AHeap->Prop}
  (hQ:∀(r:Bool) h',(r=true↔(M:Int)=m/\smalls l)->Ext h h'->Q (.bool r) h'):call 50 [.slice a M cp,.int .i64 m] h Q:=by
 refine hA.bodyR Try.func50 r50_ok (hA.alike _ _ _ rfl) hlow (zc ?_);refine br ((M:Int)≠m) (by rw[e_neq hA,e_ofNat hA]) (fun c=>?_) (fun c=>?_)<;>refine zc ?_
 ·exact hQ false h ⟨fun q=>(by cases q),fun q=>absurd q.1 c⟩ (.refl h)
 rw[e_ofNat hA];refine fits_loop hA hlow hl hi hM rfl (fun h' w e _ _ _=>?_) (fun h' _ _ w e=>?_) M 0 h (by omega) (by omega) (by omega) (fun j j0 j1=>by omega) (.refl h)
 ·refine zc ?_
  exact hQ false h' ⟨fun q=>(by cases q),fun q=>absurd q.2 w⟩ e
 ·refine zc ?_
  exact hQ true h' ⟨fun _=>⟨Decidable.of_not_not c,w⟩,fun _=>rfl⟩ e
end Go.Proofs.Ytogliemiljhliaa
namespace Go.Proofs.Ytogliemiljhliaa
open Go.Sim
set_option maxRecDepth 100000
theorem wf64_of{n:Int}(h:(Lit.int .i64 n).wf=true):i64 n:=by
 unfold i64;simp[Lit.wf,IntKind.min,IntKind.max,IntKind.signed,IntKind.bits]at h;omega
theorem cellsI:Try.prog.cellsOf 2=1:=by kernel_rfl
theorem cellsF:Try.prog.cellsOf 52=2:=by kernel_rfl
theorem len2{l:List Value}(h:l.length=2):∃a b,l=[a,b]:=by
 match l,h with
 | [a,b],_=>exact⟨a,b,rfl⟩
theorem frac_dec{w:World}{base d:Nat}{l:List Value}(h:TS Try.prog w base d 52 l):∃x y,l=[.int .i64 x,.int .i64 y]/\i64 x/\i64 y:=by
 cases d with
 |zero=>exact h.elim
 |succ d=>
  obtain⟨h1,h2⟩:=ts_struct Try.underlying52 h;rw[cellsF]at h1;obtain⟨a,b,rfl⟩:=len2 h1;simp only[List.forall_mem_cons,List.not_mem_nil,false_imp_iff,implies_true,and_true,cellsI,List.drop,List.take]at h2;obtain⟨g0,g1⟩:=h2;cases d with
  |zero=>exact g0.elim
  |succ d=>
   obtain⟨x,e1,w1⟩:=ts_int Try.underlying2 g0;obtain⟨y,e2,w2⟩:=ts_int Try.underlying2 g1;simp only[List.cons.injEq,and_true]at e1 e2;subst e1 e2;exact⟨x,y,rfl,wf64_of w1,wf64_of w2⟩
end Go.Proofs.Ytogliemiljhliaa
namespace Go.Proofs.Ytogliemiljhliaa
open Go.Sim
set_option maxRecDepth 100000
theorem fracs_in{w:World}{h:AHeap}(hn:h.next=w.heap.size)(hm:∀b,b<w.heap.size->h.m.get b=absB w b){H:Type}{enc:TypeId×Value->H}{base fuel b0:Nat}{held:Bool}{r:Reach}{v:Value}{x:DataW H×List MemPlace}
  (hval:Value.okWide Try.prog w r b0 50 v) (hf:DataW.trod enc Try.prog w base (fun _=>true) held fuel 50 v.cells.toList=some x) :
  ∃a n c l,v=.slice a n c/\repC w v=true/\n<=c/\c<=maxLen/\Rows fC 2 h a n l/\inI l:=by
 obtain⟨a,n,c,d,rfl,hr,hrep,rfl,hts⟩:=value_slice Try.underlying50 hval hf;obtain⟨xs,k1,k2,k3,k4,k5⟩:=slice_in hn hm Try.underlying50 hts hrep fC cellsF (by omega) (fun _=>rfl) (fun x=>i64 x.n/\i64 x.d) (fun l hl=>by
  obtain⟨x,y,rfl,h1,h2⟩:=frac_dec hl;exact⟨⟨x,y⟩,rfl,h1,h2⟩)
 exact⟨a,n,c,xs,rfl,hr,k2,k3,⟨k4,fun _=>rfl,by omega⟩,fun i i0 i1=>k5 _ (gt_mem xs i0 i1)⟩
end Go.Proofs.Ytogliemiljhliaa
namespace Go.Proofs.Ytogliemiljhliaa
open Go.Sim
set_option maxRecDepth 100000
theorem predL_len(l:List Int)(g s:List Fc):(predL l g s).length=(pairsL l.length).length:=by unfold predL;rw[List.length_map]
theorem pred_at{l:List Int}(ln:Line l){g s:List Fc}(ok:predOk l g s){p:P2}(hp:p∈pairsL l.length):smallF (gt g p.i)/\smallF (gt g p.j)/\smallF (gt s (ixI (clsL l) (diffOf l p)))/\0<=ixI (clsL l) (diffOf l p)/\ixI (clsL l) (diffOf l p)<s.length:=by
 obtain⟨o1,o2,o3,o4⟩:=ok;obtain⟨p0,p1,p2⟩:=mem_pairs.1 hp;obtain⟨ix0,ix1,_⟩:=ixI_mem (diff_mem ln hp);exact⟨o3 _ p0 (by omega),o3 _ (by omega) (by omega),o4 _ ix0 (by omega),ix0,by omega⟩
variable{F:Prims}{call head arith cmp scmp bnot bsame conv neg imax imin ofNat slen place inR nz geZ rd wr push next mkOK nat zeros sadd eqAgg cut slc sslc strAt part app cpy putAt fresh lowered bump wrote addN lt ne fpAll fpApp brk yn rng mget mput mnew bytes clr:_}(hA:AP F ⟨call,head,arith,cmp,scmp,bnot,bsame,conv,neg,imax,imin,ofNat,slen,place,inR,nz,geZ,rd,wr,push,next,mkOK,nat,zeros,sadd,eqAgg,cut,slc,sslc,strAt,part,app,cpy,putAt,fresh,lowered,bump,wrote,addN,lt,ne,fpAll,fpApp,brk,yn,rng,mget,mput,mnew,bytes,clr⟩)
include hA
set_option maxHeartbeats 1000000 in
theorem gpred_loop{h0:AHeap}(hlow:h0.low<=h0.next){a:Option Addr}{N c:Nat}{l:List Int}(hl:Is h0 a N l)(ln:Line l){ag:Option Addr}{G cg:Nat}{g:List Fc}(hg:Rows fC 2 h0 ag G g){aq:Option Addr}{S cs:Nat}{s:List Fc}(hs:Rows fC 2 h0 aq S s)(ok:predOk l g s){ac:Option Addr}{C cc:Nat}(hc:Is h0 ac C (clsL l))(hC:C<=100){ap:Option Addr}{M cp:Nat}(hp:Rows P2.cells 2 h0 ap M (pairsL N))(hM:M<=10){MM:Int}(hMM:MM=M){Q:Exit->SS->Prop}
  (hok:∀h' ao co kn K,Rows fC 2 h' ao M (predL l g s)->Ext h0 h'->Q (.exit 0) ⟨[(10,.slice ao M co)],kn,K,h'⟩) :
  ∀(m k:Nat) (h:AHeap) (ao:Option Addr) (co:Nat),M-k<=m->k<=M->Apd h 2 ao k co (((predL l g s).take k).flatMap fC)->From h0.next ao->Ext h0 h->
   head 30 9 0 ⟨[(0,.slice a N c),(1,.slice ag G cg),(2,.slice aq S cs),(9,.slice ac C cc),(10,.slice ao k co),(36,.slice ap M cp),(37,.int .i64 MM),(38,.int .i64 k)],0,[],h⟩ Q:=by
 have lN:=hl.len;have lM:=hp.len;have lC:=hc.len;have lG:=hg.len;have lS:=hs.len;have o1:=ok.1;have o2:=ok.2.1;have lP:(predL l g s).length=M:=by rw[predL_len,lN];exact lM
 have n5:=ln.n5;intro m
 induction m with
 |zero=>
  intro k h ao co hm hk t hf e;obtain⟨K,hK⟩:∃z:Int,z=k:=⟨_,rfl⟩;rw[<-hK];refine hA.roundR Try.func30 r30_ok (zc ?_);refine br (K<MM) (by rw[e_lss hA]) (fun q=>by omega) (fun _=>?_)<;>refine zc ?_;obtain rfl:k=M:=by omega
  rw[List.take_of_length_le (by omega)]at t;exact hok h ao co _ _ ⟨t.cells,fC_len,by omega⟩ e
 |succ m ih=>
 intro k h ao co hm hk t hf e;obtain⟨K,hK⟩:∃z:Int,z=k:=⟨_,rfl⟩;rw[<-hK];by_cases ck:k<M
 rotate_left
 ·refine hA.roundR Try.func30 r30_ok (zc ?_)
  refine br (K<MM) (by rw[e_lss hA]) (fun q=>by omega) (fun _=>?_)<;>refine zc ?_;obtain rfl:k=M:=by omega
  rw[List.take_of_length_le (by omega)]at t;exact hok h ao co _ _ ⟨t.cells,fC_len,by omega⟩ e
 obtain⟨pb,po,ep,lpb,wp⟩:=(hp.ext e).at (i:=K) (by omega) (by omega);subst ep;have w0:=wp 0 2 (by omega) (by omega);obtain⟨pi,pj,hgp⟩:∃x y,gt (pairsL N) K=⟨x,y⟩:=⟨_,_,rfl⟩;have pmem:=gt_mem (pairsL N) (i:=K) (by omega) (by omega);have pm:=mem_pairs.1 pmem;rw[hgp]at w0 pm pmem;have w0:h.readG ⟨pb,po+K.toNat*2,none⟩ 2=some [.int .i64 pi,.int .i64 pj]:=w0;have q0:=rd_ok hA w0;simp only at pm;obtain⟨p0,p1,p2⟩:=pm;rw[<-lN]at pmem;obtain⟨s1,s2,s3,ix0,ix1⟩:=pred_at ln ok pmem;simp only at s1 s2 s3;obtain⟨h9,hh9⟩:∃z,z=bump h 17:=⟨_,rfl⟩;have x9:Ext h h9:=by rw[hh9];exact ext_bump hA _ _
 have e9:=e.trans x9;have l9:=e9.lowOK hlow;obtain⟨gb,go,ea,_,r1⟩:=(hg.ext e9).at (i:=pi) p0 (by have:=ok.1;omega);subst ea;obtain⟨gb',go',ea,_,r2⟩:=(hg.ext e9).at (i:=pj) (by omega) (by have:=ok.1;omega);cases ea;obtain⟨xn,xd,hx⟩:∃x y,gt g pi=⟨x,y⟩:=⟨_,_,rfl⟩;obtain⟨yn,yd,hy⟩:∃x y,gt g pj=⟨x,y⟩:=⟨_,_,rfl⟩;have r1:=r1 0 2 (by omega) (by omega);have r2:=r2 0 2 (by omega) (by omega);rw[hx]at r1;rw[hy]at r2;have r1:rd h9 gb (place go pi 2) 2 [.int .i64 xn,.int .i64 xd]:=rd_ok hA r1;have r2:rd h9 gb (place go pj 2) 2 [.int .i64 yn,.int .i64 yd]:=rd_ok hA r2;refine hA.roundR Try.func30 r30_ok (zc ?_);refine br (K<MM) (by rw[e_lss hA]) (fun _=>?_) (fun q=>by omega)<;>refine zc ?_;refine zq ?_;rw[<-hh9];refine zq ?_;have hx':=s1.is;have hy':=s2.is;rw[hx]at hx';rw[hy]at hy';refine fsub_ok hA (low_fresh hA h9) hx'.i64n hx'.i64d hy'.i64n hy'.i64d (fun u v r k1 hz ez=>⟨_,_,_,rfl,?_⟩);obtain⟨j1,rfl⟩:=opIs_of hx' hy' (by have:=sub_fits s1 s2;rw[hx,hy]at this;exact this) k1;obtain⟨hX,hhX⟩:∃z,z=lowered h9 hz:=⟨_,rfl⟩;have eX:Ext h9 hX:=by rw[hhX];exact ext_low hA l9 (.refl h9) ez
 refine zc ?_;rw[<-hhX];refine zq ?_;refine br False (by rw[e_neq hA];rfl) (fun q=>q.elim) (fun _=>?_)<;>refine zc ?_;obtain⟨h8,hh8⟩:∃z,z=bump hX 24:=⟨_,rfl⟩;have x8:Ext hX h8:=by rw[hh8];exact ext_bump hA _ _
 have e8:=(e9.trans eX).trans x8;have l8:=e8.lowOK hlow;obtain⟨lb,lo,y,ea,_,hly,ry⟩:=is_at (hl.ext e8) (i:=pj) (by omega) (by omega);subst ea;obtain⟨lb',lo',x,ea,_,hlx,rx⟩:=is_at (hl.ext e8) (i:=pi) (by omega) (by omega);cases ea;have qy:=rd_ok hA ry;have qx:=rd_ok hA rx;have g1:=ln.rng (i:=pi) p0 (by omega);have g2:=ln.rng (i:=pj) (by omega) (by omega);have es:arith .sub .i64 y x=y-x:=sub64 hA (by omega) (by omega);have edf:diffOf l ⟨pi,pj⟩=y-x:=by unfold diffOf;simp only;omega
 obtain⟨d,hd⟩:∃z,z=y-x:=⟨_,rfl⟩;rw[<-hd]at es edf;rw[edf]at ix0 ix1 s3;obtain⟨sb,so,ea,_,r3⟩:=(hs.ext e8).at (i:=ixI (clsL l) d) ix0 (by omega);subst ea;obtain⟨zn,zd,hz3⟩:∃x y,gt s (ixI (clsL l) d)=⟨x,y⟩:=⟨_,_,rfl⟩;have r3:=r3 0 2 (by omega) (by omega);rw[hz3]at r3;have hz':=s3.is;rw[hz3]at hz';rw[<-hh8]
 (refine zq ?_;repeat ((first|rw[es]);refine zq ?_))
 refine index_ok hA (low_fresh hA h8) ((hc.ext e8).ext (ext_fresh hA h8)) (by omega) (fun r hr=>⟨_,rfl,?_⟩);refine zc ?_;rw[low_same hA l8];rw[<-hr]at r3 ix0 ix1;have r3:rd h8 sb (place so r 2) 2 [.int .i64 zn,.int .i64 zd]:=rd_ok hA r3;refine zq ?_;refine fadd_ok hA (low_fresh hA h8) j1.i64n j1.i64d hz'.i64n hz'.i64d (fun u' v' r' k2 hw ew=>⟨_,_,_,rfl,?_⟩);obtain⟨j2,rfl⟩:=opIs_of j1 hz' (by have:=pred_fits s1 s2 s3;rw[hx,hy,hz3]at this;exact this) k2;obtain⟨hY,hhY⟩:∃z,z=lowered h8 hw:=⟨_,rfl⟩;have eY:Ext h8 hY:=by rw[hhY];exact ext_low hA l8 (.refl h8) ew
 refine zc ?_;rw[<-hhY];refine zq ?_;refine br False (by rw[e_neq hA];rfl) (fun q=>q.elim) (fun _=>?_)<;>refine zc ?_;refine zq ?_;have eF:=e8.trans eY;have tF:=t.ext (((x9.trans eX).trans x8).trans eY);refine appR_ok hA TF fC_len (by omega) fC_ok (v:=⟨u',v'⟩) tF (by omega) (fun a' c' h' ha hx2=>?_);obtain⟨k',hk'⟩:∃z,z=k+1:=⟨_,rfl⟩;rw[<-hk']at ha ⊢;refine zc ?_;rw[add64 hA (by omega) (by omega),show K+1=((k':Nat):Int) by omega];obtain⟨y1,y2⟩:=hx2 h0 eF hf;have tk:=gt_take (predL l g s) (i:=K) (by omega) (by omega);have gL:gt (predL l g s) K=⟨u',v'⟩:=by
  unfold predL;rw[gt_map (predF l g s) _ (by omega) (by rw[lN];omega),lN,hgp,asF_is j2];unfold predF predQ;rw[edf,hx,hy,hz3]
 rw[show(K+1).toNat=k' by omega,show K.toNat=k by omega,gL]at tk;refine ih k' h' a' c' (by omega) (by omega) (by rw[tk];exact ha) y2 y1
set_option maxHeartbeats 1000000 in
theorem gpred_ok{h:AHeap}(hlow:h.low<=h.next){a:Option Addr}{N c:Nat}{l:List Int}(hl:Is h a N l){ag:Option Addr}{G cg:Nat}{g:List Fc}(hg:Rows fC 2 h ag G g)(ig:inI g)(G1:G<=100000){aq:Option Addr}{S cs:Nat}{s:List Fc}(hs:Rows fC 2 h aq S s)(is':inI s)(S1:S<=100000){Q:Value->AHeap->Prop}
  (hQ:∀e h' ax kx cx x,PredIs l g s e x->Rows fC 2 h' ax kx x->Ext h h'->Q (.tuple #[.slice ax kx cx,.int .i64 e]) h'):call 30 [.slice a N c,.slice ag G cg,.slice aq S cs] h Q:=by
 have lN:=hl.len;have lG:=hg.len;have lS:=hs.len;have nilR:∀h,Rows fC 2 h none 0 []:=fun h=>Rows.nil h fC_len (by omega)
 refine hA.bodyR Try.func30 r30_ok (hA.alike _ _ _ rfl) hlow (zc ?_);refine chk_ok hA hlow hl (fun e h1 k1 x1=>⟨_,rfl,?_⟩);refine zc ?_;refine br (e≠0) (by rw[e_neq hA]) (fun c1=>?_) (fun c1=>?_)<;>refine zc ?_
 ·exact hQ e h1 none 0 0 [] (.inl ⟨k1,c1,rfl⟩) (nilR _) x1
 have ln:=k1.zero (Decidable.of_not_not c1);have n5:=ln.n5;refine cls_ok hA (x1.lowOK hlow) (hl.ext x1) ln (fun h2 cb C co1 rc cc1 c10 hb x2=>⟨_,_,_,rfl,?_⟩);have y2:=x1.trans x2;have lC:=rc.len;refine zc ?_;rw[e_ofNat hA];refine rfits_ok31 hA (y2.lowOK hlow) (hg.ext y2) ig G1 (fun r1 h3 q1 x3=>⟨_,rfl,?_⟩);have y3:=y2.trans x3;refine zc ?_;refine br (r1=false) (by rw[e_bnot hA];cases r1<;>rfl) (fun c2=>?_) (fun c2=>?_)<;>refine zc ?_
 ·exact hQ 2 h3 none 0 0 [] (.inr (.inl ⟨ln,(fun w=>Bool.noConfusion (c2.symm.trans (q1.2 ⟨by have:=w.1;omega,w.2.2.1⟩))),rfl,rfl⟩)) (nilR _) y3
 have q1':=q1.1 (by cases r1 with|true=>rfl|false=>exact absurd rfl c2);rw[e_ofNat hA];refine rfits_ok31 hA (y3.lowOK hlow) (hs.ext y3) is' S1 (fun r2 h4 q2 x4=>⟨_,rfl,?_⟩);have y4:=y3.trans x4;refine zc ?_;refine br (r2=false) (by rw[e_bnot hA];cases r2<;>rfl) (fun c3=>?_) (fun c3=>?_)<;>refine zc ?_
 ·exact hQ 2 h4 none 0 0 [] (.inr (.inl ⟨ln,(fun w=>Bool.noConfusion (c3.symm.trans (q2.2 ⟨by have:=w.2.1;omega,w.2.2.2⟩))),rfl,rfl⟩)) (nilR _) y4
 have q2':=q2.1 (by cases r2 with|true=>rfl|false=>exact absurd rfl c3);have ok:predOk l g s:=⟨by omega,by omega,q1'.2,q2'.2⟩;refine pairs_ok hA (y4.lowOK hlow) (by omega) (fun h5 ap M cp rp hM x5=>⟨_,_,_,rfl,?_⟩);have y5:=y4.trans x5;refine zc ?_;rw[e_ofNat hA];refine gpred_loop hA (y5.lowOK hlow) (hl.ext y5) ln (hg.ext y5) (hs.ext y5) ok (rc.ext ((x3.trans x4).trans x5)) (by omega) rp hM rfl (fun h6 ao co kn K r6 x6=>?_) M 0 h5 none 0 (by omega) (by omega) (by simpa using Apd.nil h5 2) (.none _) (.refl _);refine zc ?_;exact hQ 0 h6 _ _ _ _ (.inr (.inr ⟨ln,ok,rfl,rfl⟩)) r6 (y5.trans x6)
