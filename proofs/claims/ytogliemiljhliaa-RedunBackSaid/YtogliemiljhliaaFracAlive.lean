import Derived.Test.YtogliemiljhliaaRdB
import Derived.Test.YtogliemiljhliaaSymGr
import Derived.Test.YtogliemiljhliaaSymD
import Derived.Test.YtogliemiljhliaaFracPure
set_option linter.unusedSimpArgs false
set_option linter.unusedVariables false
namespace Go.Proofs.Ytogliemiljhliaa
open Go.Sim
set_option maxRecDepth 100000
def wid(l:List Int):Nat:=l.length+(clsL l).length
def zrow(n:Nat):List Int:=List.replicate n 0
def rowF(l:List Int)(p:P2):List Int:=(((zrow (wid l)).set p.i.toNat 1).set p.j.toNat (-1)).set (l.length+ixI (clsL l) (diffOf l p)).toNat 1
def rowsL(l:List Int):List (List Int):=(pairsL l.length).map (rowF l)
theorem rowF_len(l:List Int)(p:P2):(rowF l p).length=wid l:=by unfold rowF zrow;simp
theorem TL:SliceT Try.prog 28 22 1:=⟨by kernel_rfl,by kernel_rfl,⟨24,by kernel_rfl,by omega⟩,⟨.slice none 0 0,by kernel_rfl,rfl⟩⟩
theorem copies_int(n:Nat):copies [.int .i64 0] n=(zrow n).flatMap iC:=by
 induction n with
 |zero=>rfl
 |succ n ih=>unfold copies zrow;rw[ih,List.replicate_succ,List.flatMap_cons];rfl
theorem diff_mem{l:List Int}(ln:Line l){p:P2}(hp:p∈pairsL l.length):diffOf l p∈clsL l:=(mem_diffs ln).1 (by unfold diffs;exact List.mem_map_of_mem hp)
theorem pairsL_len(n:Nat)(h:n<=5):(pairsL n).length=n*(n-1) / 2:=by
 have:n=0\/n=1\/n=2\/n=3\/n=4\/n=5:=by omega
 rcases this with rfl|rfl|rfl|rfl|rfl|rfl<;>decide
theorem DatI.three{h0 h:AHeap}{b n:Nat}{L:List Int}(t:DatI h0 h b n L){i j k:Int}(i0:0<=i)(i1:i<n)(j0:0<=j)(j1:j<n)(k0:0<=k)(k1:k<n) :
  ∃h1 h2,h.write b (0+i.toNat*1) [.int .i64 1]=some h1/\h1.write b (0+j.toNat*1) [.int .i64 (-1)]=some h2/\DatI h0 h2 b n ((L.set i.toNat 1).set j.toNat (-1))/\h2.next=h.next/\(∀c,c≠b->h2.m.get c=h.m.get c):=by
 obtain⟨h1,w1,t1,r1⟩:=t.put i0 i1 (x:=1);obtain⟨h2,w2,t2,r2⟩:=t1.put j0 j1 (x:=-1);exact⟨h1,h2,by rw[Nat.zero_add];exact w1,by rw[Nat.zero_add];exact w2,t2,by rw[r2.next,r1.next],fun c hc=>by rw[r2.get c hc,r1.get c hc]⟩
variable{F:Prims}{call head arith a0 c0 d0 e0 f0 g0 l0 m0 ofNat n0 place o0 nz r0 rd wr push next s0 t0 u0 v0 x0 z0 a1 b1 d1 f1 l1 m1 n1 o1 q1 bump s1 u1 lt ne v1 z1 a2 yn rng b2 c2 d2 f2 i2:_}(hA:AP F ⟨call,head,arith,a0,c0,d0,e0,f0,g0,l0,m0,ofNat,n0,place,o0,nz,r0,rd,wr,push,next,s0,t0,u0,v0,x0,z0,a1,b1,d1,f1,l1,m1,n1,o1,q1,bump,s1,u1,lt,ne,v1,z1,a2,yn,rng,b2,c2,d2,f2,i2⟩)
include hA
set_option maxHeartbeats 1000000 in
theorem rows_loop{h0:AHeap}(hlow:h0.low<=h0.next){a:Option Addr}{N c:Nat}{l:List Int}(hl:Is h0 a N l)(ln:Line l){ac:Option Addr}{C cc:Nat}(hc:Is h0 ac C (clsL l))(hC:C<=10){ap:Option Addr}{M cp:Nat}(hp:Rows P2.cells 2 h0 ap M (pairsL N))(hM:M<=10){MM:Int}(hMM:MM=M){Q:Exit->SS->Prop}
  (hok:∀h' ao co bs kn K,Apd h' 1 ao M co ((hds (wid l) bs (rowsL l)).flatMap Hd.cells)->From h0.next ao->GrW iC 1 (wid l) h0 h' bs (rowsL l)->(∀ad,ao=some ad->ad.block∉bs)->Q (.exit 0) ⟨[(4,.slice ao M co)],kn,K,h'⟩) :
  ∀(m:Nat) (k:Nat) (h:AHeap) (ao:Option Addr) (co:Nat) (bs:List Nat),M-k<=m->k<=M->Apd h 1 ao k co ((hds (wid l) bs ((rowsL l).take k)).flatMap Hd.cells)->From h0.next ao->GrW iC 1 (wid l) h0 h bs ((rowsL l).take k)->(∀ad,ao=some ad->ad.block∉bs)->
   head 37 4 0 ⟨[(0,.slice a N c),(3,.slice ac C cc),(4,.slice ao k co),(11,.slice ap M cp),(12,.int .i64 MM),(13,.int .i64 k)],0,[],h⟩ Q:=by
 have lN:=hl.len;have lM:=hp.len;have lC:=hc.len;have lD:(rowsL l).length=M:=by unfold rowsL;rw[List.length_map,lN,lM]
 have n5:=ln.n5;intro m
 induction m with
 |zero=>
  intro k h ao co bs hm hk t hf w out;obtain⟨K,hK⟩:∃z:Int,z=k:=⟨_,rfl⟩;rw[<-hK];refine hA.roundR Try.func37 r37_ok (zc ?_);refine br (K<MM) (by rw[e_lss hA]) (fun q=>by omega) (fun _=>?_)<;>refine zc ?_;obtain rfl:k=M:=by omega
  rw[List.take_of_length_le (by omega)]at t w;exact hok h ao co bs _ _ t hf w out
 |succ m ih=>
 intro k h ao co bs hm hk t hf w out;obtain⟨K,hK⟩:∃z:Int,z=k:=⟨_,rfl⟩;rw[<-hK];by_cases ck:k<M
 rotate_left
 ·refine hA.roundR Try.func37 r37_ok (zc ?_)
  refine br (K<MM) (by rw[e_lss hA]) (fun q=>by omega) (fun _=>?_)<;>refine zc ?_;obtain rfl:k=M:=by omega
  rw[List.take_of_length_le (by omega)]at t w;exact hok h ao co bs _ _ t hf w out
 have he:=w.ext;obtain⟨pb,po,ep,lpb,wp⟩:=(hp.ext he).at (i:=K) (by omega) (by omega);subst ep;have w0:=wp 0 2 (by omega) (by omega);obtain⟨pi,pj,hg⟩:∃x y,gt (pairsL N) K=⟨x,y⟩:=⟨_,_,rfl⟩;have pmem:=gt_mem (pairsL N) (i:=K) (by omega) (by omega);have pm:=mem_pairs.1 pmem;rw[hg]at w0 pm pmem;have w0:h.readG ⟨pb,po+K.toNat*2,none⟩ 2=some [.int .i64 pi,.int .i64 pj]:=w0;have q0:=rd_ok hA w0;simp only at pm;obtain⟨p0,p1,p2⟩:=pm;obtain⟨W,hW⟩:∃z:Int,z=(N:Int)+C:=⟨_,rfl⟩;have hWw:W=wid l:=by unfold wid;omega
 have eW:arith .add .i64 (N:Int) C=W:=by rw[hW];exact add64 hA (by omega) (by omega)
 have eN:ofNat N=(N:Int):=e_ofNat hA N;have eC:ofNat C=(C:Int):=e_ofNat hA C;refine hA.roundR Try.func37 r37_ok (zc ?_);refine br (K<MM) (by rw[e_lss hA]) (fun _=>?_) (fun q=>by omega)<;>refine zc ?_
 (refine zq ?_;repeat ((first|rw[eN]|rw[eC]|rw[eW]);refine zq ?_))
 refine⟨mk_ok hA (by omega) (Int.le_refl _) (by omega),?_⟩;refine zc ?_;obtain⟨ww,hww⟩:∃z:Nat,z=wid l:=⟨_,rfl⟩;rw[e_zeros hA,e_next hA,e_push hA,e_nat hA,show W.toNat=ww by omega,copies_int];have oP:=Own.push h 1 ((zrow ww).flatMap iC);have eP:=Ext.push h 1 ((zrow ww).flatMap iC);have nP:(h.push 1 ((zrow ww).flatMap iC)).next=h.next+1:=rfl;generalize h.push 1 ((zrow ww).flatMap iC)=hP at *;obtain⟨rb,hrb⟩:∃z,z=h.next:=⟨_,rfl⟩;rw[<-hrb]at oP nP ⊢;have D:DatI h hP rb ww (zrow ww):=⟨eP,oP,by omega,by omega,by unfold zrow;simp,by unfold wid at hww;omega⟩;have dm:=diff_mem ln (p:=⟨pi,pj⟩) (by rw[lN];exact pmem);obtain⟨ix0,ix1,ix2⟩:=ixI_mem dm;obtain⟨h1,h2,w1,w2,D2,n2,g2⟩:=D.three (i:=pi) (j:=pj) (k:=0) p0 (by unfold wid at hww;omega) (by omega) (by unfold wid at hww;omega) (by omega) (by unfold wid at hww;omega);have w1:=wr_ok hA w1;have w2:=wr_ok hA w2;have wN:N+C=ww:=by unfold wid at hww;omega
 refine zq ?_;have e2:Ext h0 h2:=he.trans D2.ext;obtain⟨h9,hh9⟩:∃z,z=bump h2 19:=⟨_,rfl⟩;have x9:Ext h2 h9:=by rw[hh9];exact ext_bump hA _ _
 have e9:=e2.trans x9;have l9:=e9.lowOK hlow;have D9:=D2.more x9;obtain⟨lb,lo,y,ea,_,hy,ry⟩:=is_at (hl.ext e9) (i:=pj) (by omega) (by omega);subst ea;obtain⟨lb',lo',x,ea,_,hx,rx⟩:=is_at (hl.ext e9) (i:=pi) (by omega) (by omega);cases ea;have qy:=rd_ok hA ry;have qx:=rd_ok hA rx;have g1:=ln.rng (i:=pi) p0 (by omega);have g2':=ln.rng (i:=pj) (by omega) (by omega);have es:arith .sub .i64 y x=y-x:=sub64 hA (by omega) (by omega);have edf:diffOf l ⟨pi,pj⟩=y-x:=by unfold diffOf;simp only;omega
 obtain⟨d,hd⟩:∃z,z=y-x:=⟨_,rfl⟩;rw[<-hd]at es edf;rw[edf]at ix0 ix1 ix2;rw[<-hh9]
 (refine zq ?_;repeat ((first|rw[eN]|rw[es]);refine zq ?_))
 refine index_ok hA (low_fresh hA h9) ((hc.ext e9).ext (ext_fresh hA h9)) (by omega) (fun r hr=>⟨_,rfl,?_⟩);refine zc ?_;rw[low_same hA l9];obtain⟨z,hz⟩:∃z:Int,z=(N:Int)+r:=⟨_,rfl⟩;have hr0:0<=r:=by rw[hr];exact ix0
 have hr1:r<C:=by rw[hr,lC.symm];exact ix1
 rw[show arith .add .i64 (Int.ofNat N) r=z by rw[hz];exact add64 hA (a:=(N:Int)) (by omega) (by omega)];obtain⟨h3,w3,D3,r3⟩:=D9.put (i:=z) (by omega) (by omega) (x:=1);have w3:wr h9 rb (place 0 z 1) [.int .i64 1] h3:=wr_ok hA (by rw[Nat.zero_add];exact w3);refine zq ?_;have e3:=D3.ext;have t3:=t.ext e3;have w3':=w.more e3;have gL:gt (rowsL l) K=rowF l ⟨pi,pj⟩:=by unfold rowsL;rw[gt_map (rowF l) _ (by omega) (by rw[lN];omega),lN,hg]
 have tk:(rowsL l).take (k+1)=(rowsL l).take k++[rowF l ⟨pi,pj⟩]:=by
  have:=gt_take (rowsL l) (i:=K) (by omega) (by omega);rw[show(K+1).toNat=k+1 by omega,show K.toNat=k by omega,gL]at this;exact this
 have rnew:rb∉bs:=fun q=>by have:=w.ltr rb q;omega
 have D3':Own h3 rb 1 ((rowF l ⟨pi,pj⟩).flatMap iC):=by
  have:=D3.own;unfold rowF;simp only;rw[edf,lN,<-hr,<-hz,<-hww];exact this
 have wA:=w3'.add D3' (by have:=he.next;omega) D3.lt rnew;have lg:=w.len;have hB:hds (wid l) (bs++[rb]) ((rowsL l).take k++[rowF l ⟨pi,pj⟩])=hds (wid l) bs ((rowsL l).take k)++[⟨some ⟨rb,0,none⟩,ww,ww⟩]:=by rw[hds_add lg,rowF_len,<-hww]
 refine appK_ok hA TL hd_len (by omega) hd_ok (v:=⟨some ⟨rb,0,none⟩,ww,ww⟩) t3 (by omega) (fun b' h' ha hx hn' hb' hk'=>?_);generalize someCap 1 (k+1)=cc' at *;obtain⟨k',hk2⟩:∃z,z=k+1:=⟨_,rfl⟩;rw[<-hk2]at ha tk ⊢;refine zc ?_;rw[add64 hA (by omega) (by omega),show K+1=((k':Nat):Int) by omega];have tlt:=t.lt;have out':∀b,b∈bs++[rb]->∀ad,ao=some ad->ad.block≠b:=fun b hb ad had e=>by
  rcases List.mem_append.1 hb with q|q
  ·exact out ad had (by rw[e];exact q)
  ·simp only[List.mem_singleton]at q;have:=tlt ad had;omega
 have x':=hx h0 (he.trans e3) hf;refine ih k' h' _ _ (bs++[rb]) (by omega) (by omega) (by rw[tk,hB];exact ha) (fun ad e=>by cases e;have:=he.next;have:=e3.next;simp only;omega) ?_ (fun ad e=>by cases e;exact fun q=>by have:=wA.ltr _ q;simp only at this;omega);rw[tk];exact wA.keep x' (by omega) (fun b hb=>hk' b (wA.ltr b hb) (out' b hb))
theorem rows_ok2{h:AHeap}(hlow:h.low<=h.next){a:Option Addr}{N c:Nat}{l:List Int}(hl:Is h a N l)(ln:Line l){Q:Value->AHeap->Prop}
  (hQ:∀h' ao k co hs,GrR iC 1 h' ao k hs (rowsL l)->k=(pairsL N).length->k<=10->Ext h h'->From h.next ao->(∀y:Int,0<=y->y<k->From h.next (gt hs y).a)->Q (.slice ao k co) h'):call 37 [.slice a N c] h Q:=by
 have lN:=hl.len;have n5:=ln.n5;refine hA.bodyR Try.func37 r37_ok (hA.alike _ _ _ rfl) hlow (zc ?_);refine cls_ok hA hlow hl ln (fun h1 cb C co1 rc c1 c10 hb x1=>⟨_,_,_,rfl,?_⟩);refine zc ?_;refine pairs_ok hA (x1.lowOK hlow) (by omega) (fun h2 ap M cp rp hM x2=>⟨_,_,_,rfl,?_⟩);have y2:=x1.trans x2;refine zc ?_;rw[e_ofNat hA];refine rows_loop hA (y2.lowOK hlow) (hl.ext y2) ln (rc.ext x2) c10 rp hM rfl (fun h3 ao co bs kn K t hf w out=>?_) M 0 h2 none 0 [] (by omega) (by omega) (by simpa[hds]using Apd.nil h2 1) (.none _) (by simpa using GrW.nil h2 iC_len (by omega)) (fun ad e=>by cases e);refine zc ?_;have e:M=((hds (wid l) bs (rowsL l))).length:=by rw[hds_len w.len];unfold rowsL;rw[List.length_map,lN,rp.len]
 exact hQ h3 ao M co _ (w.rd ⟨by have:=t.cells;rwa [e]at this ⊢,hd_len,by omega⟩) rp.len.symm hM (y2.trans w.ext) (fun ad e=>Nat.le_trans y2.next (hf ad e)) (fun y y0 y1 ad e1=>by
  have hlr:(rowsL l).length=M:=by unfold rowsL;rw[List.length_map,lN,rp.len]
  rw[hds_at w.len y0 (by omega)]at e1;cases e1;exact Nat.le_trans y2.next (w.oldr _ (bs_mem (by have:=w.len;omega))))
end Go.Proofs.Ytogliemiljhliaa
namespace Go.Proofs.Ytogliemiljhliaa
open Go.Sim
set_option maxRecDepth 100000
theorem cellsInt:Try.prog.cellsOf 3=1:=by kernel_rfl
theorem is_in{w:World}{h:AHeap}(hn:h.next=w.heap.size)(hm:∀b,b<w.heap.size->h.m.get b=absB w b){H:Type}{enc:TypeId×Value->H}{base fuel b0:Nat}{held:Bool}{r:Reach}{v:Value}{x:DataW H×List MemPlace}
  (hval:Value.okWide Try.prog w r b0 22 v) (hf:DataW.trod enc Try.prog w base (fun _=>true) held fuel 22 v.cells.toList=some x) :
  ∃a n c l,v=.slice a n c/\repC w v=true/\n<=c/\c<=maxLen/\Is h a n l/\∀x∈l,(Lit.int .i64 x).wf=true:=by
 obtain⟨a,n,c,d,rfl,hr,hrep,rfl,hts⟩:=value_slice Try.underlying22 hval hf;obtain⟨xs,k1,k2,k3,k4,k5⟩:=slice_in hn hm Try.underlying22 hts hrep iC cellsInt (by omega) (fun _=>rfl) (fun n=>(Lit.int .i64 n).wf=true) (fun l hl=>by
  cases d with
  |zero=>exact hl.elim
  |succ d=>
   obtain⟨y,rfl,hw⟩:=ts_int Try.underlying3 hl;exact⟨y,rfl,hw⟩)
 exact⟨a,n,c,xs,rfl,hr,k2,k3,⟨k4,fun _=>rfl,by omega⟩,k5⟩
end Go.Proofs.Ytogliemiljhliaa
namespace Go.Proofs.Ytogliemiljhliaa
open Go.Sim
set_option maxRecDepth 100000
theorem aliveRun:saysTrue ((execA Try.prog noHint primsP 10000).call 23 [] emptyH)=true:=by kernel_rfl
theorem prims_ok:CallOK Try.prog prims:=withTrue_ok (execA_ok mixed primsP_ok primsP_keep named 10000).2.2.1 Try.func23 (by kernel_rfl) (named 23 _ Try.func23) aliveRun prims0_ok
theorem prims_alike(g:FuncId)(args:List Value)(h:AHeap)(hg:Nat.beq g 23=false):prims g args h=prims0 g args h:=by
 unfold prims withTrue;rw[hg];rfl
theorem alive_prim(h:AHeap):prims 23 [] h=some (.bool true,h):=rfl
