import Derived.Test.YtogliemiljhliaaRdI
import Derived.Test.YtogliemiljhliaaSymSlc
set_option linter.unusedSimpArgs false
set_option linter.unusedVariables false
namespace Go.Proofs.Ytogliemiljhliaa
open Go.Sim
set_option maxRecDepth 100000
theorem run_full{m:Nat}{S:St}{c:Nat}(h:m<=(run m S c).bound.length):∀d,run m S (c+d)=run m S c
 |0=>rfl
 |d+1=>by
  show step m (run m S (c+d)) (c+d)=run m S c;rw[run_full h d];unfold step;rw[if_neg (by omega)]
structure El(h0 h:AHeap)(sb oa cp m n cm:Nat)(bs:Nat->Nat)(ba:Option Addr)(nb cb qb:Nat)(S:St)(c:Nat):Prop where
 mat:MatW iC 1 cp h0 h oa bs m (n+1) S.R
 bnd:Apd h 1 ba nb cb ((S.bound.map Int.ofNat).flatMap iC)
 frm:From h0.next ba
 nbl:nb=S.bound.length
 red:Red h sb oa m cm n ba nb cb S.lead
 s0:h0.next<=sb
 s1:sb<h.next
 sm:∀y,y<m->sb≠bs y
 so:sb≠oa
 bz:∀ad,ba=some ad->ad.block≠sb/\ad.block≠oa/\∀y,y<m->ad.block≠bs y
 qo:Own h qb 1 [.int .i64 c]
 q0:h0.next<=qb
 q1:qb<h.next
 qs:qb≠sb
 qa:qb≠oa
 qm:∀y,y<m->qb≠bs y
 qn:∀ad,ba=some ad->ad.block≠qb
theorem El.next{h0 h:AHeap}{sb oa cp m n cm:Nat}{bs:Nat->Nat}{ba:Option Addr}{nb cb qb:Nat}{S:St}{c:Nat}(e:El h0 h sb oa cp m n cm bs ba nb cb qb S c){C C2:Int}(eC:C=c)(e2:C2=C+1) :
  ∃h1 h2,(h.push 1 [.int .i64 0]).write h.next 0 [.int .i64 C]=some h1/\h1.readG ⟨h.next,0,none⟩ 1=some [.int .i64 C]/\h1.write h.next 0 [.int .i64 C2]=some h2/\El h0 h2 sb oa cp m n cm bs ba nb cb h.next S (c+1):=by
 obtain⟨h1,w1,o1,r1⟩:=(Own.push h 1 [.int .i64 0]).write (o:=0) (vs:=[.int .i64 C]) (Nat.le_refl _);obtain⟨h2,w2,o2,r2⟩:=Own.write (cells:=[.int .i64 C]) o1 (o:=0) (vs:=[.int .i64 C2]) (Nat.le_refl _);have x:Ext h h2:=r2.ext (r1.ext (.push h 1 [.int .i64 0]) (Nat.le_refl _)) (Nat.le_refl _);refine⟨h1,h2,w1,Own.readG (cells:=[.int .i64 C]) o1 (o:=0) (n:=1) (Nat.le_refl _),w2,⟨e.mat.more x,e.bnd.ext x,e.frm,e.nbl,e.red.ext x e.s1,e.s0,Nat.lt_of_lt_of_le e.s1 x.next,e.sm,e.so,e.bz,?_,?_,?_,?_,?_,fun y hy=>?_,fun ad had=>?_⟩⟩
 ·have:Own h2 h.next 1 [.int .i64 C2]:=o2
  rw[show C2=((c+1:Nat):Int) by omega]at this;exact this
 ·exact e.mat.ext.next
 ·rw[r2.next,r1.next];exact Nat.lt_succ_self _
 ·have:=e.s1;omega
 ·have:=e.mat.lto;omega
 ·have:=e.mat.ltr y hy;omega
 ·have:=e.bnd.lt ad had;omega
variable{F:Prims}{a0 head arith b0 c0 d0 e0 f0 g0 j0 k0 ofNat m0 place n0 nz o0 rd wr push next p0 r0 t0 u0 w0 x0 slc y0 a1 b1 c1 d1 f1 j1 l1 bump n1 addN lt ne t1 x1 a2 yn b2 c2 d2 f2 i2 j2:_}(hA:AP F ⟨a0,head,arith,b0,c0,d0,e0,f0,g0,j0,k0,ofNat,m0,place,n0,nz,o0,rd,wr,push,next,p0,r0,t0,u0,w0,x0,slc,y0,a1,b1,c1,d1,f1,j1,l1,bump,n1,addN,lt,ne,t1,x1,a2,yn,b2,c2,d2,f2,i2,j2⟩)
include hA
theorem slc_any{t:TypeId}{e es:Nat}(hT:SliceT Try.prog t e es){b o n:Nat}(hn:n<=1000000){k:IntKind}{i:Int}(i0:0<=i)(i1:i<n){C:Option Addr->Nat->Nat->Prop}
  (h:∀c',C (some ⟨b,o+i.toNat*es,none⟩) (n-i.toNat) c'):slc t (.slice (some ⟨b,o,none⟩) n (someCap es n)) (some (.int k i)) none none C:=by
 by_cases c:1<=i
 ·exact slc_lo hA hT hn c i1 (h _)
 obtain rfl:i=0:=by omega
 have e_slc:slc t (.slice (some ⟨b,o,none⟩) n (someCap es n)) (some (.int k 0)) none none C = ∃a' n' c',sliceA Try.prog t (.slice (some ⟨b,o,none⟩) n (someCap es n)) (some (.int k 0)) none none=some (.slice a' n' c')/\C a' n' c':=by have:=hA.eq;injections;subst_vars;rfl
 rw[e_slc];have h:=h (someCap es n);rw[show o+(0:Int).toNat*es=o by simp,show n-(0:Int).toNat=n by simp]at h;refine⟨_,_,_,?_,h⟩;have hs:n<slack:=by unfold slack;omega
 unfold sliceA;simp only[hT.und,hT.size];unfold sliceS;simp only[boundMx,boundHi,boundLo,bound];rw[if_pos ⟨by omega,by omega⟩];simp only[];rw[capLow_some hs,ble_true (Nat.le_refl _),blt_false (someCap_ge es n),someCap_div hs];simp
set_option maxHeartbeats 1000000 in
theorem elim_loop{h0:AHeap}(hlow:h0.low<=h0.next){sb oa cp m n:Nat}(m1:0<m)(m100:m<=100)(n100:n<100){S0:St}
  (hb:∀c,c<=n->(run m S0 c).lead≠0/\(run m S0 c).bound.length<=m/\∀i j,i<m->j<=n->((run m S0 c).R i j).natAbs<=1000000000) {Q:Exit->SS->Prop}
  (hQ:∀(h':AHeap) bs ba nb cb qb c',El h0 h' sb oa cp m n (someCap 1 m) bs ba nb cb qb (run m S0 n) c'->Q (.exit 4) ⟨[(4,.pointer (some ⟨0,0,some 0⟩)),(5,.pointer (some ⟨sb,0,none⟩))],1,[(0,[.slice none 0 0,.int .i64 0,.slice none 0 0,.int .i64 0])],h'⟩) :
  ∀(d c:Nat) (C:Int) (h:AHeap) (bs:Nat->Nat) (ba:Option Addr) (nb cb qb:Nat),n-c=d->c<=n->C=c->El h0 h sb oa cp m n (someCap 1 m) bs ba nb cb qb (run m S0 c) c->
   head 45 15 1 ⟨[(4,.pointer (some ⟨0,0,some 0⟩)),(5,.pointer (some ⟨sb,0,none⟩)),(11,.pointer (some ⟨qb,0,none⟩))],1,[(0,[.slice none 0 0,.int .i64 0,.slice none 0 0,.int .i64 0])],h⟩ Q:=by
 intro d
 induction d with
 |zero=>
  intro c C h bs ba nb cb qb hd hc eC el;have ecn:c=n:=by omega
  generalize hS:run m S0 c=S at *;obtain⟨cm,hcm⟩:∃z,z=someCap 1 m:=⟨_,rfl⟩;have red:=el.red;rw[<-hcm]at red;have q1:rd h qb 0 1 [.int .i64 C]:=rd_at hA (by rw[eC];exact el.qo.readG (o:=0) (n:=1) (Nat.le_refl _));have s0:rd h sb (addN 0 0) 1 [.slice (some ⟨oa,0,none⟩) m cm]:=by rw[e_addN hA];exact rd_at hA (red.readG (o:=0) (n:=1) (Nat.le_of_ble_eq_true rfl))
  obtain⟨N,eN⟩:∃z:Int,z=n:=⟨_,rfl⟩;have s1:rd h sb (addN 0 1) 1 [.int .i64 N]:=by rw[e_addN hA,eN];exact rd_at hA (red.readG (o:=1) (n:=1) (Nat.le_of_ble_eq_true rfl))
  have s2:rd h sb (addN 0 2) 1 [.slice ba nb cb]:=by rw[e_addN hA];exact rd_at hA (red.readG (o:=2) (n:=1) (Nat.le_of_ble_eq_true rfl))
  obtain⟨B,eB⟩:∃z:Int,z=nb:=⟨_,rfl⟩;obtain⟨M,eM⟩:∃z:Int,z=m:=⟨_,rfl⟩;have en:ofNat nb=B:=by rw[eB];exact e_ofNat hA nb
  have em:ofNat m=M:=by rw[eM];exact e_ofNat hA m
  refine hA.roundR Try.func45 r45_ok (zc ?_)
  (refine zq ?_;repeat ((first|rw[en]|rw[em]);refine zq ?_))
  refine br (C<N) (by rw[e_lss hA]) (fun q=>by omega) (fun _=>?_)<;>refine zc ?_;refine zq ?_;have e:run m S0 n=S:=by rw[<-ecn];exact hS
  exact hQ h bs ba nb cb qb c (by rw[e];exact el)
 |succ d ih=>
 intro c C h bs ba nb cb qb hd hc eC el;obtain⟨l0,lm,bR⟩:=hb c hc;generalize hS:run m S0 c=S at *;obtain⟨cm,hcm⟩:∃z,z=someCap 1 m:=⟨_,rfl⟩;have red:=el.red;rw[<-hcm]at red;have q1:rd h qb 0 1 [.int .i64 C]:=rd_at hA (by rw[eC];exact el.qo.readG (o:=0) (n:=1) (Nat.le_refl _));have s0:rd h sb (addN 0 0) 1 [.slice (some ⟨oa,0,none⟩) m cm]:=by rw[e_addN hA];exact rd_at hA (red.readG (o:=0) (n:=1) (Nat.le_of_ble_eq_true rfl))
 obtain⟨N,eN⟩:∃z:Int,z=n:=⟨_,rfl⟩;have s1:rd h sb (addN 0 1) 1 [.int .i64 N]:=by rw[e_addN hA,eN];exact rd_at hA (red.readG (o:=1) (n:=1) (Nat.le_of_ble_eq_true rfl))
 have s2:rd h sb (addN 0 2) 1 [.slice ba nb cb]:=by rw[e_addN hA];exact rd_at hA (red.readG (o:=2) (n:=1) (Nat.le_of_ble_eq_true rfl))
 obtain⟨B,eB⟩:∃z:Int,z=nb:=⟨_,rfl⟩;obtain⟨M,eM⟩:∃z:Int,z=m:=⟨_,rfl⟩;have en:ofNat nb=B:=by rw[eB];exact e_ofNat hA nb
 have em:ofNat m=M:=by rw[eM];exact e_ofNat hA m
 have hnb:=el.nbl;refine hA.roundR Try.func45 r45_ok (zc ?_)
 (refine zq ?_;repeat ((first|rw[en]|rw[em]);refine zq ?_))
 refine br (C<N) (by rw[e_lss hA]) (fun _=>?_) (fun q=>by omega)<;>refine zc ?_
 (refine zq ?_;repeat ((first|rw[en]|rw[em]);refine zq ?_))
 refine br (B<M) (by rw[e_lss hA]) (fun cB=>?_) (fun cB=>?_)<;>refine zc ?_
 rotate_left
 ·refine zq ?_
  have e:=run_full (m:=m) (S:=S0) (c:=c) (by rw[hS];omega) (n-c);rw[show c+(n-c)=n by omega,hS]at e;exact hQ h bs ba nb cb qb c (e ▸ el)
 (refine zq ?_;repeat ((first|rw[en]);refine zq ?_))
 rw[hcm];refine slc_any hA TLL64 (by omega) (by omega) (by omega) (fun c'=>?_);obtain⟨o,eo⟩:∃z,z=0+B.toNat*1:=⟨_,rfl⟩;obtain⟨k,ek⟩:∃z,z=m-B.toNat:=⟨_,rfl⟩;rw[<-eo,<-ek,<-hcm];refine zc ?_;have eat:B.toNat=S.bound.length:=by omega
 refine idx_ok hA (el.mat.ext.lowOK hlow) el.mat m100 (by omega) (k:=B.toNat) (by omega) (c:=c) (by omega) (by omega) (by omega) eC (by have:=el.qo.readG (o:=0) (n:=1) (Nat.le_refl _);rw[<-eC]at this;exact this) ⟨_,rfl,?_⟩;have hst:run m S0 (c+1)=step m S c:=by show step m (run m S0 c) c=_;rw[hS]
 have hlt:S.bound.length<m:=by omega
 unfold step at hst;rw[if_pos hlt]at hst;unfold pickI;rw[eat];cases hp:pick S.R c (m-S.bound.length) S.bound.length with
 |none=>
  rw[hp]at hst;simp only at hst ⊢;refine zc ?_;refine br ((-1:Int)<0) (by rw[e_lss hA]) (fun _=>?_) (fun q=>by omega)<;>refine zc ?_;obtain⟨C2,eC2⟩:∃z,z=C+1:=⟨_,rfl⟩;obtain⟨g1,g2,u1,u2,u3,el2⟩:=el.next eC eC2;have u1:wr (push h 1 [.int .i64 0]) (next h) 0 [.int .i64 C] g1:=by rw[e_push hA,e_next hA];exact wr_at hA u1
  have u2:rd g1 (next h) 0 1 [.int .i64 C]:=by rw[e_next hA];exact rd_at hA u2
  have u3:wr g1 (next h) 0 [.int .i64 C2] g2:=by rw[e_next hA];exact wr_at hA u3
  have u4:arith .add .i64 C 1=C2:=by rw[eC2];exact add64 hA (by omega) (by omega)
  (refine zq ?_;repeat ((first|rw[u4]);refine zq ?_))
  rw[e_next hA];exact ih (c+1) C2 g2 bs ba nb cb h.next (by omega) (by omega) (by omega) (by rw[hst];exact el2)
 |some i=>
  rw[hp]at hst;simp only at hst ⊢;obtain⟨p1,p2,p3,_⟩:=pick_some hp;obtain⟨I,eI⟩:∃z:Int,z=i:=⟨_,rfl⟩;obtain⟨D,eD⟩:∃z:Int,z=(i:Int)-(S.bound.length:Nat):=⟨_,rfl⟩;rw[<-eD];have uI:arith .add .i64 B D=I:=by rw[eI];rw[add64 hA (by omega) (by omega)];omega
  refine zc ?_;refine br (D<0) (by rw[e_lss hA]) (fun q=>by omega) (fun _=>?_)<;>refine zc ?_;have x9:Ext h (bump h 24):=ext_bump hA _ _;have M9:=el.mat.more x9;have red9:Red (bump h 24) sb oa m cm n ba nb cb S.lead:=red.ext x9 el.s1;have z0:rd (bump h 24) sb (addN 0 0) 1 [.slice (some ⟨oa,0,none⟩) m cm]:=by rw[e_addN hA];exact rd_at hA (red9.readG (o:=0) (n:=1) (Nat.le_of_ble_eq_true rfl))
  have z1:rd (bump h 24) oa (place 0 I 1) 1 [.slice (some ⟨bs i,0,none⟩) (n+1) cp]:=rd_ok hA (by rw[eI];exact M9.head (by omega));have z2:rd (bump h 24) oa (place 0 B 1) 1 [.slice (some ⟨bs S.bound.length,0,none⟩) (n+1) cp]:=rd_ok hA (by rw[show B.toNat=S.bound.length by omega];exact M9.head (by omega));obtain⟨h1,h2,w1,w2,M2,n2,g2⟩:=M9.swap (a:=S.bound.length) (b:=i) (by omega) (by omega);have w1:wr (bump h 24) oa (place 0 B 1) [.slice (some ⟨bs i,0,none⟩) (n+1) cp] h1:=wr_ok hA (by rw[show B.toNat=S.bound.length by omega];exact w1);have w2:wr h1 oa (place 0 I 1) [.slice (some ⟨bs S.bound.length,0,none⟩) (n+1) cp] h2:=wr_ok hA (by rw[eI];exact w2);have hsw:∀y,y<m->swN S.bound.length i y<m:=fun y hy=>by unfold swN;split<;>(try split)<;>omega
  have gh:∀b,b<h.next->b≠oa->h2.m.get b=h.m.get b:=fun b hb' hne=>by rw[g2 b hne,x9.get b hb']
  have nx2:h.next<=h2.next:=by rw[n2];exact x9.next
  have qo2:Own h2 qb 1 [.int .i64 c]:=el.qo.of_get (gh _ el.q1 el.qa);have y1:rd h2 qb 0 1 [.int .i64 C]:=rd_at hA (by rw[eC];exact qo2.readG (o:=0) (n:=1) (Nat.le_refl _));have red2:Red h2 sb oa m cm n ba nb cb S.lead:=red.of_get (gh _ el.s1 el.so)
  (refine zq ?_;repeat ((first|rw[uI]);refine zq ?_))
  refine clear_ok hA (h0:=h0) (f:=swp S.R S.bound.length i) (M2.ext.lowOK hlow) hlt (c:=c) (by omega) (Nat.lt_of_lt_of_le el.s1 nx2) (fun y hy=>el.sm _ (hsw y hy)) red2 m100 (by omega) (fun j x hj hx=>?_) l0 (by omega) eC M2 (fun h3 M3 st3=>?_)
  ·have r1:=bR _ c (hsw _ hlt) hc
   have r2:=bR _ x (hsw _ hj) (by omega);have r3:=bR _ c (hsw _ hj) hc;have r4:=bR _ x (hsw _ hlt) (by omega);rw[Int.natAbs_mul,Int.natAbs_mul];exact⟨Nat.mul_le_mul r1 r2,Nat.mul_le_mul r3 r4⟩
  have nx3:=st3.next;have gh3:∀b,b<h.next->b≠oa->(∀y,y<m->b≠bs y)->h3.m.get b=h.m.get b:=fun b hb' hne hny=>by rw[st3.get b (by omega) (fun y hy=>hny _ (hsw y hy)),gh b hb' hne]
  have qo3:Own h3 qb 1 [.int .i64 c]:=el.qo.of_get (gh3 _ el.q1 el.qa el.qm);have y3:rd h3 qb 0 1 [.int .i64 C]:=rd_at hA (by rw[eC];exact qo3.readG (o:=0) (n:=1) (Nat.le_refl _));have red3:Red h3 sb oa m cm n ba nb cb S.lead:=red.of_get (gh3 _ el.s1 el.so el.sm);have y4:rd h3 sb (addN 0 2) 1 [.slice ba nb cb]:=by rw[e_addN hA];exact rd_at hA (red3.readG (o:=2) (n:=1) (Nat.le_of_ble_eq_true rfl))
  have bnd3:Apd h3 1 ba nb cb ((S.bound.map Int.ofNat).flatMap iC):=el.bnd.of_get (by omega) (fun ad had hl'=>by obtain⟨_,k1,k2⟩:=el.bz ad had;exact gh3 _ hl' k1 k2);refine zq ?_;refine appK_ok hA TI iC_len (by omega) iC_ok (v:=C) bnd3 (by omega) (fun bb h4 a4 x4 n4 l4 k4=>?_);generalize someCap 1 (nb+1)=cb' at *;obtain⟨nb',hnb'⟩:∃z,z=nb+1:=⟨_,rfl⟩;rw[<-hnb']at a4 ⊢;have gh4:∀b,b<h.next->b≠oa->(∀y,y<m->b≠bs y)->(∀ad,ba=some ad->ad.block≠b)->h4.m.get b=h.m.get b:=fun b hb' hne hny hnb=>by rw[k4 b (by omega) hnb,gh3 b hb' hne hny]
  have xe4:Ext h0 h4:=x4 h0 M3.ext el.frm;have M4:=M3.keep xe4 (by omega) (k4 _ M3.lto (fun ad had=>(el.bz ad had).2.1)) (fun y hy=>k4 _ (M3.ltr y hy) (fun ad had=>(el.bz ad had).2.2 _ (hsw y hy)));have red4:Red h4 sb oa m cm n ba nb cb S.lead:=red.of_get (gh4 _ el.s1 el.so el.sm (fun ad had=>(el.bz ad had).1));obtain⟨h5,w5,o5,r5⟩:=Own.write red4 (o:=2) (vs:=[.slice (some ⟨bb,0,none⟩) nb' cb']) (Nat.le_of_ble_eq_true rfl);have w5:wr h4 sb (addN 0 2) [.slice (some ⟨bb,0,none⟩) nb' cb'] h5:=by rw[e_addN hA];exact wr_at hA w5
  have red5:Red h5 sb oa m cm n (some ⟨bb,0,none⟩) nb' cb' S.lead:=o5;have xe5:Ext h0 h5:=r5.ext xe4 el.s0;have hes0:=el.s0;have hes1:=el.s1;have M5:=M4.keep xe5 (by rw[r5.next];omega) (r5.get _ (fun q=>el.so q.symm)) (fun y hy=>r5.get _ (fun q=>el.sm _ (hsw y hy) q.symm));have x9:Ext h5 (bump h5 10):=ext_bump hA _ _;have qo5:Own (bump h5 10) qb 1 [.int .i64 c]:=(el.qo.of_get ((r5.get _ el.qs).trans (gh4 _ el.q1 el.qa el.qm el.qn))).ext x9 (by rw[r5.next];have:=el.q1;omega);have M9:=M5.more x9;have red9:=Own.ext red5 x9 (by rw[r5.next];omega);obtain⟨L,hL⟩:∃z,z=swp S.R S.bound.length i S.bound.length c:=⟨_,rfl⟩;obtain⟨rb,hrb⟩:∃z,z=bs (swN S.bound.length i S.bound.length):=⟨_,rfl⟩;have v0:rd (bump h5 10) sb (addN 0 0) 1 [.slice (some ⟨oa,0,none⟩) m cm]:=by rw[e_addN hA];exact rd_at hA (Own.readG red9 (o:=0) (n:=1) (Nat.le_of_ble_eq_true rfl))
  have v1:rd (bump h5 10) oa (place 0 B 1) 1 [.slice (some ⟨rb,0,none⟩) (n+1) cp]:=rd_ok hA (by rw[show B.toNat=S.bound.length by omega,hrb];exact M9.head hlt);have v2:rd (bump h5 10) rb (place 0 C 1) 1 [.int .i64 L]:=rd_ok hA (by
   rw[hrb,hL,eC];have:=M9.el hlt (x:=c) (by omega);rw[show clrF (swp S.R S.bound.length i) S.bound.length c S.lead S.bound.length c=swp S.R S.bound.length i S.bound.length c by unfold clrF;rw[if_pos rfl]]at this;exact this)
  have v3:rd (bump h5 10) qb 0 1 [.int .i64 C]:=rd_at hA (by rw[eC];exact qo5.readG (o:=0) (n:=1) (Nat.le_refl _));obtain⟨h6,w6,o6,r6⟩:=Own.write red9 (o:=3) (vs:=[.int .i64 L]) (Nat.le_of_ble_eq_true rfl);have w6:wr (bump h5 10) sb (addN 0 3) [.int .i64 L] h6:=by rw[e_addN hA];exact wr_at hA w6
  have x9n:=x9.next;have x6:Ext h0 h6:=r6.ext M9.ext el.s0;have M6:=M9.keep x6 (by rw[r6.next];omega) (r6.get _ (fun q=>el.so q.symm)) (fun y hy=>r6.get _ (fun q=>el.sm _ (hsw y hy) q.symm));have n5:=r5.next;have n6:=r6.next;have el6:El h0 h6 sb oa cp m n (someCap 1 m) (fun y=>bs (swN S.bound.length i y)) (some ⟨bb,0,none⟩) nb' cb' qb (run m S0 (c+1)) c:=by
   rw[hst];refine⟨M6,?_,fun ad had=>by cases had;simp only;omega,by simp only[List.length_append,List.length_singleton];omega,?_,el.s0,by omega,fun y hy=>el.sm _ (hsw y hy),el.so,fun ad had=>?_,?_,el.q0,by have:=el.q1;omega,el.qs,el.qa,fun y hy=>el.qm _ (hsw y hy),fun ad had=>by cases had;simp only;have:=el.q1;omega⟩
   ·have e1:(S.bound++[c]).map Int.ofNat=S.bound.map Int.ofNat++[C]:=by rw[List.map_append,eC];rfl
    simp only[];rw[e1];refine Apd.of_get a4 (by omega) (fun ad had hl'=>?_);cases had;simp only at hl' ⊢;rw[r6.get _ (by omega),x9.get _ (by omega),r5.get _ (by omega)]
   ·rw[<-hcm,<-hL]
    exact o6
   ·cases had
    simp only;refine⟨by omega,by have:=M3.lto;omega,fun y hy=>by have:=M3.ltr y hy;omega⟩
   ·exact Own.of_get qo5 (r6.get _ el.qs)
  obtain⟨C2,eC2⟩:∃z,z=C+1:=⟨_,rfl⟩;obtain⟨g1,g2',u1,u2,u3,el2⟩:=el6.next eC eC2;have u1:wr (push h6 1 [.int .i64 0]) (next h6) 0 [.int .i64 C] g1:=by rw[e_push hA,e_next hA];exact wr_at hA u1
  have u2:rd g1 (next h6) 0 1 [.int .i64 C]:=by rw[e_next hA];exact rd_at hA u2
  have u3:wr g1 (next h6) 0 [.int .i64 C2] g2':=by rw[e_next hA];exact wr_at hA u3
  have u4:arith .add .i64 C 1=C2:=by rw[eC2];exact add64 hA (by omega) (by omega)
  have u5:rd h6 qb 0 1 [.int .i64 C]:=rd_at hA (by rw[eC];exact el6.qo.readG (o:=0) (n:=1) (Nat.le_refl _))
  (refine zq ?_;repeat ((first|rw[u4]);refine zq ?_))
  rw[e_next hA];exact ih (c+1) C2 g2' _ _ _ _ h6.next (by omega) (by omega) (by omega) el2
