import Derived.Test.YtdpbiegfljmhmaaInsP
import Derived.Test.YtdpbiegfljmhmaaSymFacts
import Derived.Test.YtdpbiegfljmhmaaSymGrid
import Derived.Test.YtdpbiegfljmhmaaFracA
import Derived.Test.YtdpbiegfljmhmaaFracR
set_option linter.unusedSimpArgs false
set_option linter.unusedVariables false
namespace Go.Proofs.Ytdpbiegfljmhmaa
open Go.Sim
set_option maxRecDepth 100000
theorem primsB_ok:CallOK Try.prog primsB:=withFn_ok (Go.Sim.add64_ok Try.func113 (named _ _ Try.func113) (by kernel_rfl) (by kernel_rfl) (by kernel_rfl)) (withFn_ok (Go.Sim.sub64_ok Try.func115 (named _ _ Try.func115) (by kernel_rfl) (by kernel_rfl) (by kernel_rfl)) noPrims_ok)
theorem primsB_keep:CallKeep primsB:=withFn_keep (withFn_keep noPrims_keep)
theorem zL1(w:World):(Go.sizeOf 27).run Try.prog w=.ok 1 w:=run_sizeT (by kernel_rfl)
theorem primsO_ok:CallOK Try.prog primsO:=withH_ok primsB_ok (overlaps_does (tS:=22) (tR:=4) Try.func118 (named _ _ Try.func118) (by kernel_rfl) (by kernel_rfl) (by kernel_rfl) TLL.und zL1)
theorem primsO_keep:CallKeep primsO:=withH_keep overlapsF_keep primsB_keep
theorem primsO_alike(g:FuncId)(args:List Value)(h:AHeap)(hg:own g=false):primsO g args h=primsB g args h:=by
 unfold own at hg;simp only[Bool.or_eq_false_iff]at hg;unfold primsO withH;rw[hg.2];rfl
theorem insertF_ok(args:List Value)(h:AHeap)(r:Value)(h':AHeap)(hc:insertF args h=some (r,h'))(G:Nat->Option Sim.Loc)(w:World)(cargs:List Value)(hR:HR ⟨G,fun _=>none⟩ (St0 h) w)(hA:VGs G args cargs) :
  Does Try.prog 100 cargs.toArray w (fun c w'=>∃G',VG G' r c/\Good ⟨G,fun _=>none⟩ (St0 h) w ⟨G',fun _=>none⟩ (St0 h') w'/\Adds (h.next<=·) G G'):=by
 obtain⟨b,n,i,vb,cs,v,rfl,m1,m2,hl,hi,hd,hdv,hne,hn,rfl,rfl⟩:=insertF_spec hc;have hB:AP primsO (atomsOf Try.prog hint primsO):=⟨⟨rfl,primsO_keep⟩,primsO_alike⟩;have okh:∀v,isHd v=true->cellOK v=true:=fun v hv=>by obtain⟨_,_,_,_,rfl⟩:=isHd_spec hv;rfl
 have okc:cs.all cellOK=true:=by rw[List.all_eq_true]at hd ⊢;exact fun v hv=>okh v (hd v hv)
 obtain⟨x1,l1,rfl,g1,hA1⟩:=hA.head;obtain⟨x2,l2,rfl,g2,hA2⟩:=hA1.head;obtain⟨x3,l3,rfl,g3,hA3⟩:=hA2.head;obtain rfl:l3=[]:=List.eq_nil_of_length_eq_zero hA3.1.symm;have vgs:∀{G':Nat->Option Sim.Loc} {a:Value},(∀id L,G id=some L->G' id=some L)->VG G' a x1->VGs G' [a,.int .i64 (Int.ofNat i),.slice (some ⟨vb,0,none⟩) 1 1] [x1,x2,x3]:=fun hm q=>⟨rfl,fun j u z hu hz=>by
  match j with
  |0=>simp at hu hz;subst hu;subst hz;exact q
  |1=>simp at hu hz;subst hu;subst hz;exact g2.mono hm
  |2=>simp at hu hz;subst hu;subst hz;exact g3.mono hm
  |j+3=>simp at hu⟩
 have hvb:vb<h.next:=by
  rcases g3.sliceL with ⟨_,L3,_,hL3,_⟩|⟨_,⟨x,hx⟩,_⟩
  ·exact hR.gdom _ _ hL3
  ·cases hx
 obtain⟨L3,hL3⟩:∃L3,G vb=some L3:=by
  rcases g3.sliceL with ⟨_,L3,_,hL3,_⟩|⟨_,⟨x,hx⟩,_⟩
  ·exact⟨L3,hL3⟩
  ·cases hx
 rcases g1.sliceL with ⟨_,L,c',hL,rfl,hk⟩|⟨_,⟨x,hx⟩,_⟩
 rotate_left
 ·cases hx
 have hL:G b=some L:=hL;have hb:b<h.next:=hR.gdom _ _ hL;obtain⟨es1,ccs,ce,cf,k2,k3,k4⟩:=hR.gcon b L _ hL m1;have hs:n<slack:=by unfold slack;omega
 obtain⟨hnc,htot⟩:n<=c'/\L.o+c'<=L.tot:=by
  rcases hk with ⟨q,_⟩|⟨m,q1,_,q2,q3⟩
  ·exact absurd q (by unfold someCap;omega)
  ·rw[es1]at q1 q3
   unfold someCap at q1;have q3':L.o+0+c'*1<=L.tot:=q3;omega
 have hhd:∀u∈cs.take i++v :: cs.drop i,∃a len k L1,u=.slice (some a) len k/\a.spot=none/\G a.block=some L1:=by
  have one:∀u,isHd u=true->(∃c,VG G u c)->∃a len k L1,u=.slice (some a) len k/\a.spot=none/\G a.block=some L1:=fun u hu ⟨c,hc⟩=>by
   obtain⟨bb,o,len,k,rfl⟩:=isHd_spec hu;rcases hc.sliceL with ⟨_,L1,_,hL1,_⟩|⟨_,⟨x,hx⟩,_⟩
   ·exact⟨_,_,_,L1,rfl,rfl,hL1⟩
   ·cases hx
  intro u hu;have:u∈cs\/u=v:=by
   rcases List.mem_append.1 hu with q|q
   ·exact .inl (List.mem_of_mem_take q)
   ·rcases List.mem_cons.1 q with q|q
    ·exact .inr q
    ·exact .inl (List.mem_of_mem_drop q)
  rcases this with q|rfl
  ·obtain⟨j,hj,rfl⟩:=List.getElem_of_mem q
   obtain⟨c,_,z⟩:=k3 j _ (List.getElem?_eq_getElem hj);exact one _ (List.all_eq_true.1 hd _ q) ⟨c,z⟩
  ·obtain⟨_,_,_,_,_,z3,_⟩:=hR.gcon vb L3 _ hL3 m2
   obtain⟨c,_,z⟩:=z3 0 u rfl;exact one _ hdv ⟨c,z⟩
 have fin:∀{G2:Nat->Option Sim.Loc} {L2:Sim.Loc} {c3:Nat},G2 h.next=some L2->L2.es=1->n+1<=c3->L2.o+c3<=L2.tot->VG G2 (.slice (some ⟨h.next,0,none⟩) (n+1) (someCap 1 (n+1))) (.slice (some ⟨L2.b,L2.o+0,none⟩) (n+1) c3):=fun {G2 L2 c3} e1 e2 e3 e4=>by
  have:=VG.sliceI (g:=G2) ⟨h.next,0,none⟩ L2 (n+1) (n+1) c3 rfl e1 e3 (by unfold slack;omega) (by rw[e2];show L2.o+0+c3*1<=L2.tot;omega);rw[e2]at this;exact this
 by_cases hroom:n+1<=c'
 ·
  obtain⟨hh,ehh⟩:∃z,z=({ h with m:=h.m.set b (.live true 1 (cs++[.chan none])) }:AHeap):=⟨_,rfl⟩;have hR2:HR ⟨G,fun _=>none⟩ (St0 hh) w:=by rw[ehh];exact hR.room hL m1 (by omega)
  have gk:∀k,k≠b->hh.m.get k=h.m.get k:=fun k hk=>by rw[ehh];show(h.m.set b _).get k=_;rw[Tri.get_set_ne _ _ (fun e=>hk e.symm)]
  have nn:hh.next=h.next:=by rw[ehh]
  have ob:Own hh.anew b 1 (cs++[.chan none]):=by show hh.m.get b=_;rw[ehh];show(h.m.set b _).get b=_;rw[Tri.get_set_eq]
  have ov:Own hh.anew vb 1 [v]:=(gk vb (fun e=>hne e.symm)).trans m2;have vg1:VG G (.slice (some ⟨b,0,none⟩) n (someCap 1 (n+1))) (.slice (some ⟨L.b,L.o+0,none⟩) n c'):=by
   have:=VG.sliceI (g:=G) ⟨b,0,none⟩ L n (n+1) c' rfl hL hroom (by unfold slack;omega) (by rw[es1];show L.o+0+c'*1<=L.tot;omega);rw[es1]at this;exact this
  have wn:=ins_room hB primsO_ok (fun a b r q=>by unfold primsO withH;rw[Nat.beq_refl];simp only[cond_true,q]) (h:=hh.anew) rfl (I:=Int.ofNat i) rfl (by show b<hh.next;omega) ob hl (by show vb<hh.next;omega) hne ov hi hn okc (okh v hdv)
   (R:=fun u h''=>u=.slice (some ⟨b,0,none⟩) (n+1) (someCap 1 (n+1))/\Own h'' b 1 (cs.take i++v :: cs.drop i)/\(∀k,k≠b->h''.m.get k=hh.m.get k)/\b<=h''.low) (fun h'' q1 _ q2 q3=>⟨rfl,q1,q2,q3⟩)
  refine(WNs.does (P:=progU) (R:=fun u h''=>u=.slice (some ⟨b,0,none⟩) (n+1) (someCap 1 (n+1))/\Own h'' b 1 (cs.take i++v :: cs.drop i)/\(∀k,k≠b->h''.m.get k=hh.m.get k)/\b<=h''.low) Try.func100 cIns_is (named _ _ Try.func100) rfl (Nat.le_refl _) wn (anewHR hR2) (vgs (fun _ _ q=>q) vg1)).mono (fun c w'=>?_);rintro⟨u,h'',G',⟨rfl,q1,q2,q3⟩,hv,hG,_⟩;obtain⟨G2,f1,f2,f3,f4⟩:=Good.moved hR hb hG (hG.mono _ _ hL) q1 (fun k L1 blk kb hk hm=>BR.back hG.mono (hR.gcon k L1 blk hk hm) (hG.hr.gcon k L1 blk (hG.mono _ _ hk) (by show h''.m.get k=_;rw[q2 k kb,gk k kb];exact hm)))
   (fun k L1 blk kb hk hm ha e=>kb (hR.ginj k b L1 L blk _ hk hL hm m1 ha rfl e)) (.inr hL) (Nat.le_trans (Nat.min_le_right _ _) q3) hhd
  refine⟨G2,?_,f3,f4⟩;rcases hv.sliceL with ⟨_,L2,c3,hL2,rfl,hk3⟩|⟨_,⟨x,hx⟩,_⟩
  rotate_left
  ·cases hx
  have e:G' b=some L:=hG.mono _ _ hL;have hL2:G' b=some L2:=hL2;rw[hL2]at e;obtain rfl:=Option.some.inj e;refine fin f1 es1 ?_ ?_
  ·rcases hk3 with ⟨q,_⟩|⟨m,q1,_,q2,q3⟩
   ·exact absurd q (by unfold someCap;omega)
   ·rw[es1]at q1;unfold someCap at q1;omega
  ·rcases hk3 with ⟨q,_⟩|⟨m,q1,_,q2,q3⟩
   ·exact absurd q (by unfold someCap;omega)
   ·rw[es1]at q3
    have q3':L2.o+0+c3*1<=L2.tot:=q3;omega
 ·obtain rfl:c'=n:=by omega
  have vg1:VG G (.slice (some ⟨b,0,none⟩) c' c') (.slice (some ⟨L.b,L.o+0,none⟩) c' c'):=.sliceX _ L _ _ rfl hL hs;have wn:=ins_grow hB primsO_ok (h:=h.anew) rfl (I:=Int.ofNat i) rfl hb m1 hl hvb m2 hi hn okc (okh v hdv)
   (R:=fun u h''=>∃b2,u=.slice (some ⟨b2,0,none⟩) (c'+1) (someCap 1 (c'+1))/\Own h'' b2 1 (cs.take i++v :: cs.drop i)/\h.next<=b2/\h.next<=h''.low) (fun b2 h'' q1 q2 _ q3=>⟨b2,rfl,q1,q2,q3⟩)
  refine(WNs.does (P:=progU) (R:=fun u h''=>∃b2,u=.slice (some ⟨b2,0,none⟩) (c'+1) (someCap 1 (c'+1))/\Own h'' b2 1 (cs.take i++v :: cs.drop i)/\h.next<=b2/\h.next<=h''.low) Try.func100 cIns_is (named _ _ Try.func100) rfl (Nat.le_refl _) wn (anewHR hR) (vgs (fun _ _ q=>q) vg1)).mono (fun c w'=>?_);rintro⟨u,h'',G',⟨b2,rfl,q1,q2,q3⟩,hv,hG,_⟩;rcases hv.sliceL with ⟨_,L2,c3,hL2,rfl,hk3⟩|⟨_,⟨x,hx⟩,_⟩
  rotate_left
  ·cases hx
  have hL2:G' b2=some L2:=hL2;obtain⟨es2,_⟩:=hG.hr.gcon b2 L2 _ hL2 q1;have hGb:G b2=none:=by
   cases hx:G b2 with
   |none=>rfl
   |some L1=>have:b2<h.next:=hR.gdom b2 L1 hx;omega
  have hnew:w.heap.size<=L2.b:=by
   rcases hG.fresh b2 L2 hL2 hGb with h1|⟨id0,L0,h1,h2,h3⟩
   ·exact h1
   ·have h4:id0<h.next:=hR.gdom id0 L0 h1
    have h5:h''.low<=id0:=h3;omega
  obtain⟨G2,f1,f2,f3,f4⟩:=Good.moved hR hb hG hL2 q1 (fun k L1 blk kb hk hm=>by
   rw[hG.frame L1.b (hR.lt hk) (fun id L4 h0 _=>Nat.lt_of_lt_of_le (hR.gdom id L4 h0) q3) (fun t L h=>by cases h)];exact hR.gcon k L1 blk hk hm) (fun k L1 blk kb hk hm ha e=>by have:=hR.lt hk;omega) (.inl hnew) (Nat.le_trans (Nat.min_le_right _ _) (by show b<=h''.low;omega)) hhd
  refine⟨G2,?_,f3,f4⟩;refine fin f1 es2 ?_ ?_
  ·rcases hk3 with ⟨q,_⟩|⟨m,q1,_,q2,q3⟩
   ·exact absurd q (by unfold someCap;omega)
   ·rw[es2]at q1;unfold someCap at q1;omega
  ·rcases hk3 with ⟨q,_⟩|⟨m,q1,_,q2,q3⟩
   ·exact absurd q (by unfold someCap;omega)
   ·rw[es2]at q3
    have q3':L2.o+0+c3*1<=L2.tot:=q3;omega
theorem prims0_ok:CallOK Try.prog prims0:=withH_ok primsO_ok insertF_ok
theorem prims0_keep:CallKeep prims0:=withH_keep insertF_keep primsO_keep
theorem prims_keep:CallKeep prims:=withTrue_keep prims0_keep
end Go.Proofs.Ytdpbiegfljmhmaa
namespace Go.Proofs.Ytdpbiegfljmhmaa
open Go.Sim
variable{F:Prims}{call head arith cmp scmp bnot bsame conv neg imax imin ofNat slen place inR nz geZ rd wr push next mkOK nat zeros sadd eqAgg cut slc sslc strAt part app cpy putAt fresh lowered bump wrote addN lt ne fpAll fpApp brk yn rng mget mput mnew bytes clr:_}(hA:AP F ⟨call,head,arith,cmp,scmp,bnot,bsame,conv,neg,imax,imin,ofNat,slen,place,inR,nz,geZ,rd,wr,push,next,mkOK,nat,zeros,sadd,eqAgg,cut,slc,sslc,strAt,part,app,cpy,putAt,fresh,lowered,bump,wrote,addN,lt,ne,fpAll,fpApp,brk,yn,rng,mget,mput,mnew,bytes,clr⟩)
include hA
theorem fp_old{h h':AHeap}{b lim:Nat}(hw:wrote h h'=false)(hb:b<lim):fpAll false (wrote h h') false b lim:=by
 rw[e_fpAll hA];exact⟨rfl,hw,.inr hb⟩
end Go.Proofs.Ytdpbiegfljmhmaa
namespace Go.Proofs.Ytdpbiegfljmhmaa
open Go.Sim
set_option maxRecDepth 100000
structure Hd where
 a:Option Addr
 n:Nat
 c:Nat
 deriving Inhabited
def Hd.cells(k:Hd):List Value:=[.slice k.a k.n k.c]
theorem hd_len(k:Hd):k.cells.length=1:=rfl
theorem hd_ok(k:Hd):k.cells.all cellOK=true:=rfl
structure GrR{α:Type}[Inhabited α](enc:α->List Value)(es:Nat)(h:AHeap)(a:Option Addr)(N:Nat)(hs:List Hd)(g:List (List α)):Prop where
 hd:Rows Hd.cells 1 h a N hs
 len:g.length=N
 row:∀y:Int,0<=y->y<N->Rows enc es h (gt hs y).a (gt hs y).n (gt g y)
theorem GrR.ext{α:Type}[Inhabited α]{enc:α->List Value}{es:Nat}{h h':AHeap}{a:Option Addr}{N:Nat}{hs:List Hd}{g:List (List α)}(t:GrR enc es h a N hs g)(e:Ext h h'):GrR enc es h' a N hs g:=⟨t.hd.ext e,t.len,fun y y0 y1=>(t.row y y0 y1).ext e⟩
theorem GrR.rowN{α:Type}[Inhabited α]{enc:α->List Value}{es:Nat}{h:AHeap}{a:Option Addr}{N:Nat}{hs:List Hd}{g:List (List α)}(t:GrR enc es h a N hs g){y:Int}(y0:0<=y)(y1:y<N):(gt g y).length=(gt hs y).n:=(t.row y y0 y1).len
def hds{α:Type}(cp:Nat)(bs:List Nat)(g:List (List α)):List Hd:=List.zipWith (fun b r=>⟨some ⟨b,0,none⟩,r.length,cp⟩) bs g
variable{F:Prims}{call head arith cmp scmp bnot bsame conv neg imax imin ofNat slen place inR nz geZ rd wr push next mkOK nat zeros sadd eqAgg cut slc sslc strAt part app cpy putAt fresh lowered bump wrote addN lt ne fpAll fpApp brk yn rng mget mput mnew bytes clr:_}(hA:AP F ⟨call,head,arith,cmp,scmp,bnot,bsame,conv,neg,imax,imin,ofNat,slen,place,inR,nz,geZ,rd,wr,push,next,mkOK,nat,zeros,sadd,eqAgg,cut,slc,sslc,strAt,part,app,cpy,putAt,fresh,lowered,bump,wrote,addN,lt,ne,fpAll,fpApp,brk,yn,rng,mget,mput,mnew,bytes,clr⟩)
include hA
end Go.Proofs.Ytdpbiegfljmhmaa
namespace Go.Proofs.Ytdpbiegfljmhmaa
open Go.Sim
set_option maxRecDepth 100000
def lst{α:Type}(f:Nat->α)(n:Nat):List α:=(List.range n).map f
theorem lst_len{α:Type}(f:Nat->α)(n:Nat):(lst f n).length=n:=by unfold lst;simp
theorem lst_at{α:Type}(f:Nat->α){n i:Nat}(h:i<n):(lst f n)[i]?=some (f i):=by unfold lst;simp[h]
theorem lst_gt{α:Type}[Inhabited α](f:Nat->α){n i:Nat}(h:i<n):gt (lst f n) (i:Int)=f i:=by
 unfold gt;rw[List.getD_eq_getElem?_getD,show((i:Int)).toNat=i from rfl,lst_at f h];rfl
theorem lst_set{α:Type}(f:Nat->α)(n i:Nat)(v:α):(lst f n).set i v=lst (fun j=>if j=i then v else f j) n:=by
 apply List.ext_getElem?;intro j;rw[List.getElem?_set,lst_len];by_cases c:j<n
 ·rw[lst_at _ c,lst_at _ c]
  by_cases e:i=j
  ·subst e;simp[c]
  ·rw[if_neg e,if_neg (fun q=>e q.symm)]
 ·have e1:(lst f n)[j]?=none:=List.getElem?_eq_none (by rw[lst_len];omega)
  have e2:(lst (fun j=>if j=i then v else f j) n)[j]?=none:=List.getElem?_eq_none (by rw[lst_len];omega);rw[e1,e2];split
  ·rw[if_neg (by omega)]
  ·rfl
theorem lst_congr{α:Type}{f g:Nat->α}{n:Nat}(h:∀i,i<n->f i=g i):lst f n=lst g n:=by
 unfold lst;exact List.map_congr_left (fun i hi=>h i (List.mem_range.1 hi))
theorem lst_succ{α:Type}(f:Nat->α)(n:Nat):lst f (n+1)=lst f n++[f n]:=by
 unfold lst;rw[List.range_succ,List.map_append];rfl
def swN(a b i:Nat):Nat:=if i=a then b else if i=b then a else i
end Go.Proofs.Ytdpbiegfljmhmaa
namespace Go.Proofs.Ytdpbiegfljmhmaa
open Go.Sim
theorem prims0_like(g:FuncId)(args:List Value)(h:AHeap)(hg:own g=false):prims0 g args h=primsB g args h:=by
 have hg':=hg;unfold own at hg;simp only[Bool.or_eq_false_iff]at hg;unfold prims0 withH;rw[hg.1.2];exact primsO_alike g args h hg'
end Go.Proofs.Ytdpbiegfljmhmaa
namespace Go.Proofs.Ytdpbiegfljmhmaa
open Go.Sim
set_option maxRecDepth 100000
structure Fc where
 n:Int
 d:Int
 deriving Inhabited
def fC(x:Fc):List Value:=[.int .i64 x.n,.int .i64 x.d]
def turnF(x:Fc):Prop:=okF x.n x.d/\0<=x.n/\x.n<x.d
def Many(g:List (List Int)):Prop:=4<g.length\/∃i:Int,0<=i/\i<g.length/\4<(gt g i).length
structure Good(g:List (List Int))(B:List Fc):Prop where
 m1:0<g.length
 n1:0<(gt g 0).length
 len:B.length=g.length
 row:∀i:Int,0<=i->i<g.length->(gt g i).length=(gt g 0).length
 coef:∀i:Int,0<=i->i<g.length->∀j:Int,0<=j->j<(gt g i).length->-9<=gt (gt g i) j/\gt (gt g i) j<=9
 turn:∀i:Int,0<=i->i<B.length->turnF (gt B i)/\(gt B i).d<=60
def ChkIs(g:List (List Int))(B:List Fc)(e:Int):Prop:=(Many g/\e=4)\/(¬Many g/\Good g B/\e=0)\/(¬Many g/\¬Good g B/\e=8)
theorem ChkIs.uniq{g:List (List Int)}{B:List Fc}{e e':Int}(h:ChkIs g B e)(h':ChkIs g B e'):e=e':=by
 rcases h with ⟨a,rfl⟩|⟨a,b,rfl⟩|⟨a,b,rfl⟩<;>rcases h' with ⟨c,rfl⟩|⟨c,d,rfl⟩|⟨c,d,rfl⟩
 all_goals first|rfl|(exfalso;first|exact a c|exact c a|exact b d|exact d b)
theorem ChkIs.good{g:List (List Int)}{B:List Fc}(h:ChkIs g B 0):Good g B/\¬Many g:=by
 rcases h with ⟨_,q⟩|⟨a,b,_⟩|⟨_,_,q⟩
 ·omega
 ·exact⟨b,a⟩
 ·omega
theorem GrR.hdAt{α:Type}[Inhabited α]{enc:α->List Value}{es:Nat}{h:AHeap}{a:Option Addr}{N:Nat}{hs:List Hd}{g:List (List α)}(t:GrR enc es h a N hs g){i:Int}(i0:0<=i)(i1:i<N):∃b o,a=Option.some ⟨b,o,none⟩/\b<h.next/\h.readG ⟨b,o+i.toNat*1,none⟩ 1=Option.some [.slice (gt hs i).a (gt hs i).n (gt hs i).c]:=by
 obtain⟨b,o,e,l,q⟩:=t.hd.at i0 i1;exact⟨b,o,e,l,q 0 1 (by omega) (by omega)⟩
structure GrN{α:Type}[Inhabited α](enc:α->List Value)(es:Nat)(h:AHeap)(a:Option Addr)(N:Nat)(hs:List Hd)(g:List (List α)):Prop where
 hd:Rows Hd.cells 1 h a N hs
 len:g.length=N
 row:∀y:Int,0<=y->y<N->(gt g y).length=(gt hs y).n/\(0<(gt hs y).n->Rows enc es h (gt hs y).a (gt hs y).n (gt g y))
theorem GrN.ext{α:Type}[Inhabited α]{enc:α->List Value}{es:Nat}{h h':AHeap}{a:Option Addr}{N:Nat}{hs:List Hd}{g:List (List α)}(t:GrN enc es h a N hs g)(e:Ext h h'):GrN enc es h' a N hs g:=⟨t.hd.ext e,t.len,fun y y0 y1=>⟨(t.row y y0 y1).1,fun q=>((t.row y y0 y1).2 q).ext e⟩⟩
theorem GrN.rowN{α:Type}[Inhabited α]{enc:α->List Value}{es:Nat}{h:AHeap}{a:Option Addr}{N:Nat}{hs:List Hd}{g:List (List α)}(t:GrN enc es h a N hs g){y:Int}(y0:0<=y)(y1:y<N):(gt g y).length=(gt hs y).n:=(t.row y y0 y1).1
theorem GrN.hdAt{α:Type}[Inhabited α]{enc:α->List Value}{es:Nat}{h:AHeap}{a:Option Addr}{N:Nat}{hs:List Hd}{g:List (List α)}(t:GrN enc es h a N hs g){i:Int}(i0:0<=i)(i1:i<N):∃b o,a=Option.some ⟨b,o,none⟩/\b<h.next/\h.readG ⟨b,o+i.toNat*1,none⟩ 1=Option.some [.slice (gt hs i).a (gt hs i).n (gt hs i).c]:=by
 obtain⟨b,o,e,l,q⟩:=t.hd.at i0 i1;exact⟨b,o,e,l,q 0 1 (by omega) (by omega)⟩
theorem GrN.full{α:Type}[Inhabited α]{enc:α->List Value}{es:Nat}{h:AHeap}{a:Option Addr}{N:Nat}{hs:List Hd}{g:List (List α)}(t:GrN enc es h a N hs g)(p:∀y:Int,0<=y->y<N->0<(gt g y).length):GrR enc es h a N hs g:=
 ⟨t.hd,t.len,fun y y0 y1=>(t.row y y0 y1).2 (by rw[<-t.rowN y0 y1];exact p y y0 y1)⟩
variable{F:Prims}{call head arith cmp scmp bnot bsame conv neg imax imin ofNat slen place inR nz geZ rd wr push next mkOK nat zeros sadd eqAgg cut slc sslc strAt part app cpy putAt fresh lowered bump wrote addN lt ne fpAll fpApp brk yn rng mget mput mnew bytes clr:_}(hA:AP F ⟨call,head,arith,cmp,scmp,bnot,bsame,conv,neg,imax,imin,ofNat,slen,place,inR,nz,geZ,rd,wr,push,next,mkOK,nat,zeros,sadd,eqAgg,cut,slc,sslc,strAt,part,app,cpy,putAt,fresh,lowered,bump,wrote,addN,lt,ne,fpAll,fpApp,brk,yn,rng,mget,mput,mnew,bytes,clr⟩)
include hA
theorem turn_ok{h:AHeap}(hlow:h.low<=h.next){x:Fc}(hn:i64 x.n)(hd:i64 x.d){Q:Value->AHeap->Prop}(hQ:∀b h',(b=true↔turnF x)->Ext h h'->Q (.bool b) h'):call 31 [.agg #[.int .i64 x.n,.int .i64 x.d]] h Q:=by
 obtain⟨n,d⟩:=x;simp only at hn hd;refine hA.bodyR Try.func31 r31_ok (hA.alike _ _ _ rfl) hlow (zc ?_);refine check_ok hA hlow hn hd (fun e h' k x1=>?_);refine⟨e,rfl,?_⟩;refine zq ?_;refine br (e=0) (by rw[e_eql hA]) (fun c=>?_) (fun c=>?_)<;>refine zc ?_
 rotate_left
 ·refine zq ?_
  refine hQ false h' ⟨(fun q=>by cases q),fun q=>?_⟩ x1;rcases k with ⟨k,_⟩|⟨_,k⟩
  ·exact absurd k c
  ·exact absurd q.1 k
 have ok:okF n d:=by rcases k with ⟨_,k⟩|⟨k,_⟩;exact k;omega
 refine zq ?_;refine br (0<=n) (by rw[e_geq hA]) (fun c2=>?_) (fun c2=>?_)<;>refine zc ?_
 rotate_left
 ·refine zq ?_
  exact hQ false h' ⟨(fun q=>by cases q),fun q=>absurd q.2.1 c2⟩ x1
 refine zq ?_;rw[e_lss hA];exact hQ _ h' ⟨fun q=>⟨ok,c2,of_decide_eq_true q⟩,fun q=>decide_eq_true q.2.2⟩ x1
