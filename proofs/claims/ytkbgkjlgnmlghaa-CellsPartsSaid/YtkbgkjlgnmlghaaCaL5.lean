import Derived.Test.YtkbgkjlgnmlghaaCaF
import Derived.Test.YtkbgkjlgnmlghaaSymJoin
set_option linter.unusedSimpArgs false
set_option linter.unusedVariables false
namespace Go.Proofs.Ytkbgkjlgnmlghaa
open Go.Sim
set_option linter.unusedVariables false
set_option maxRecDepth 100000
def fX (n : Int) (s : Sk) (e : Pk) : Rat:=e.w * (adj n s.un s.ud e.x : Int)
def fY (n : Int) (s : Sk) (e : Pk) : Rat:=e.w * (adj n s.vn s.vd e.y : Int)
theorem int_bnd {v : Int} (h0 : 0 ≤ v) (h1 : v ≤ 8) : bnd (v : Rat) 8 1:=⟨by rw [Rat.num_intCast];omega,by rw [Rat.den_intCast];omega⟩
theorem adj_range {n m k c : Int} (h0 : 0 ≤ c) (h1 : c < n) : 0 ≤ adj n m k c ∧ adj n m k c ≤ n:=by unfold adj;split <;> omega
theorem PartF.b {n : Int} {e : Pk} (h : PartF n e) : bnd e.w 36 36:=⟨by have:=h.f.1;have:=h.n1;have:=h.n2;omega,by have:=h.f.2.1;have:=h.d2;omega⟩
theorem PartF.bx {n : Int} {e : Pk} (h : PartF n e) (h8 : n ≤ 8) {v : Int} (v0 : 0 ≤ v) (v1 : v ≤ n) : bnd (e.w * (v : Rat)) 288 36:=h.b.mul (int_bnd v0 (by omega))
theorem take_succ_sum (f : Pk → Rat) (L : List Pk) {i : Int} (i0 : 0 ≤ i) (i1 : i < L.length) : sumQ f (L.take (i + 1).toNat) = sumQ f (L.take i.toNat) + f (gt L i):=by
 rw [gt_take L i0 i1,sumQ_append]
 simp only [sumQ]
 grind
variable {F : Prims} {call head arith cmp scmp bnot bsame conv neg imax imin ofNat slen place inR nz geZ rd wr push next mkOK nat zeros sadd eqAgg cut slc sslc strAt part app cpy putAt fresh lowered bump wrote addN lt ne fpAll brk yn rng mget mput mnew bytes clr : _} (hA : AP F ⟨call,head,arith,cmp,scmp,bnot,bsame,conv,neg,imax,imin,ofNat,slen,place,inR,nz,geZ,rd,wr,push,next,mkOK,nat,zeros,sadd,eqAgg,cut,slc,sslc,strAt,part,app,cpy,putAt,fresh,lowered,bump,wrote,addN,lt,ne,fpAll,brk,yn,rng,mget,mput,mnew,bytes,clr⟩)
include hA
set_option maxHeartbeats 4000000 in
theorem lp_loop {h0 : AHeap} (hlow : h0.low ≤ h0.next) {n un ud vn vd : Int} (cu : Coord n un ud) (cv : Coord n vn vd) {b N c : Nat} {L : List Pk} (hL : L = partsR n ⟨un,ud,vn,vd⟩ n) (hr : Rows Pk.cells 4 h0 (some ⟨b,0,none⟩) N L) (hb : b < h0.next) {Q : Exit → SS → Prop}
  (hQ : ∀ kn h' s1 s2 u1 u2 v1 v2,isF s1 s2 (sumQ Pk.w L) → isF u1 u2 (sumQ (fX n ⟨un,ud,vn,vd⟩) L) → isF v1 v2 (sumQ (fY n ⟨un,ud,vn,vd⟩) L) → Ext h0 h' →
   Q (.exit 0) ⟨[(3,.pointer (some ⟨0,0,some 0⟩)),(5,.bool true),(8,.pointer (some ⟨1,0,some 0⟩)),(9,.pointer (some ⟨2,0,some 0⟩)),(10,.pointer (some ⟨3,0,some 0⟩))],kn,[(0,[.int .i64 un,.int .i64 ud,.int .i64 vn,.int .i64 vd]),(1,[.int .i64 s1,.int .i64 s2]),(2,[.int .i64 u1,.int .i64 u2]),(3,[.int .i64 v1,.int .i64 v2])],h'⟩) :
  ∀ (m : Nat) (i : Int) (h : AHeap) (s1 s2 u1 u2 v1 v2 : Int),(N - i).toNat ≤ m → 0 ≤ i → i ≤ N → isF s1 s2 (sumQ Pk.w (L.take i.toNat)) → isF u1 u2 (sumQ (fX n ⟨un,ud,vn,vd⟩) (L.take i.toNat)) → isF v1 v2 (sumQ (fY n ⟨un,ud,vn,vd⟩) (L.take i.toNat)) → Ext h0 h →
   head 5 9 4 ⟨[(0,.int .i64 n),(3,.pointer (some ⟨0,0,some 0⟩)),(5,.bool true),(6,.slice (some ⟨b,0,none⟩) N c),(8,.pointer (some ⟨1,0,some 0⟩)),(9,.pointer (some ⟨2,0,some 0⟩)),(10,.pointer (some ⟨3,0,some 0⟩)),(11,.int .i64 i)],4,[(0,[.int .i64 un,.int .i64 ud,.int .i64 vn,.int .i64 vd]),(1,[.int .i64 s1,.int .i64 s2]),(2,[.int .i64 u1,.int .i64 u2]),(3,[.int .i64 v1,.int .i64 v2])],h⟩ Q:=by
 have lN:=hr.len
 have few:=(parts_few (s:=⟨un,ud,vn,vd⟩) cu cv).2.1
 rw [← hL] at few
 intro m
 induction m with
 | zero =>
  intro i h s1 s2 u1 u2 v1 v2 hm i0 i1 fs fu fv he
  refine hA.roundR Try.func5 r5_ok (zc ?_)
  refine br (i < N) (by rw [e_lss hA,e_ofNat hA]) (fun q => by omega) (fun _ => ?_) <;> refine zc ?_
  rw [List.take_of_length_le (by omega)] at fs fu fv
  exact hQ _ h _ _ _ _ _ _ fs fu fv he
 | succ m ih =>
 intro i h s1 s2 u1 u2 v1 v2 hm i0 i1 fs fu fv he
 by_cases ci : i < N
 rotate_left
 ·refine hA.roundR Try.func5 r5_ok (zc ?_)
  refine br (i < N) (by rw [e_lss hA,e_ofNat hA]) (fun q => absurd q ci) (fun _ => ?_) <;> refine zc ?_
  rw [List.take_of_length_le (by omega)] at fs fu fv
  exact hQ _ h _ _ _ _ _ _ fs fu fv he
 have P : PartF n (gt L i):=partF (s:=⟨un,ud,vn,vd⟩) cu cv (by rw [← hL];exact gt_mem L i0 (by omega))
 have n0:=cu.n0
 have n8:=cu.n1
 have rds : ∀ h',Ext h0 h' → ∀ j : Int,0 ≤ j → j < N → ∀ f m,f + m ≤ 4 → 0 < m → h'.readG ⟨b,0 + j.toNat * 4 + f,none⟩ m = some (((gt L j).cells.drop f).take m):=fun h' e j j0 j1 f m hf hm0 => by
  obtain ⟨b',o',q,_,w⟩:=(hr.ext e).at j0 j1
  cases q
  exact w f m hf hm0
 obtain ⟨h9,hh9⟩ : ∃ z,z = bump h 87:=⟨_,rfl⟩
 have x9 : Ext h h9:=by rw [hh9];exact ext_bump hA _ _
 have e9:=he.trans x9
 obtain ⟨x,y,wn,wd,hg⟩ : ∃ x y wn wd,gt L i = ⟨x,y,wn,wd⟩:=⟨_,_,_,_,rfl⟩
 rw [hg] at P
 have px0:=P.x0
 have px1:=P.x1
 have py0:=P.y0
 have py1:=P.y1
 have pn1:=P.n1
 have pf : isF wn wd (Pk.w ⟨x,y,wn,wd⟩):=P.f
 dsimp only at px0 px1 py0 py1 pn1
 have R : ∀ h',Ext h0 h' → rd h' b (addN (place 0 i 4) 0) 1 [.int .i64 x] ∧ rd h' b (addN (place 0 i 4) 1) 1 [.int .i64 y] ∧ rd h' b (addN (addN (place 0 i 4) 2) 0) 1 [.int .i64 wn] ∧ rd h' b (addN (place 0 i 4) 2) 2 [.int .i64 wn,.int .i64 wd]:=fun h' e => by
  have:=rds h' e i i0 ci
  rw [hg] at this
  refine ⟨rd_fld hA (this 0 1 (by omega) (by omega)),rd_fld hA (this 1 1 (by omega) (by omega)),?_,rd_fld hA (this 2 2 (by omega) (by omega))⟩
  rw [e_rd hA,e_addN hA,e_addN hA,e_place hA];exact this 2 1 (by omega) (by omega)
 obtain ⟨a0,a1,a2,_⟩:=R h9 e9
 have M1 : arith .sub .i64 n 1 = n - 1:=sub64 hA (by omega) (by omega)
 have i1' : arith .sub .i64 i 1 = i - 1:=sub64 hA (by omega) (by omega)
 refine hA.roundR Try.func5 r5_ok (zc ?_)
 refine br (i < N) (by rw [e_lss hA,e_ofNat hA]) (fun _ => ?_) (fun q => absurd ci q) <;> refine zc ?_
 rw [← hh9]
 refine zq ?_
 refine br (x < 0) (by rw [e_lss hA]) (fun q => by omega) (fun _ => ?_) <;> refine zc ?_
 refine zq ?_
 refine br (n ≤ x) (by rw [e_geq hA]) (fun q => by omega) (fun _ => ?_) <;> refine zc ?_
 refine zq ?_
 refine br (y < 0) (by rw [e_lss hA]) (fun q => by omega) (fun _ => ?_) <;> refine zc ?_
 refine zq ?_
 refine br (n ≤ y) (by rw [e_geq hA]) (fun q => by omega) (fun _ => ?_) <;> refine zc ?_
 refine zq ?_
 refine br (wn ≤ 0) (by rw [e_leq hA]) (fun q => by omega) (fun _ => ?_) <;> refine zc ?_
 apply zj
 ·intro key
  refine br (0 < i) (by rw [e_gtr hA]) (fun q0 => ?_) (fun q0 => ?_) <;> refine zc ?_
  rotate_left
  ·exact key.o
  obtain ⟨x',y',wn',wd',hg'⟩ : ∃ x y wn wd,gt L (i - 1) = ⟨x,y,wn,wd⟩:=⟨_,_,_,_,rfl⟩
  have lt : ltP (gt L (i - 1)) (gt L i):=by
   have:=partsR_sorted n ⟨un,ud,vn,vd⟩
   rw [← hL,List.pairwise_iff_getElem] at this
   have:=this (i - 1).toNat i.toNat (by omega) (by omega) (by omega)
   unfold gt
   rw [List.getD_eq_getElem?_getD,List.getD_eq_getElem?_getD,List.getElem?_eq_getElem (by omega),List.getElem?_eq_getElem (by omega)]
   exact this
  rw [hg,hg'] at lt
  have w:=rds h9 e9 (i - 1) (by omega) (by omega)
  rw [hg'] at w
  have b0 : rd h9 b (addN (place 0 (i - 1) 4) 0) 1 [.int .i64 x']:=rd_fld hA (w 0 1 (by omega) (by omega))
  have b1 : rd h9 b (addN (place 0 (i - 1) 4) 1) 1 [.int .i64 y']:=rd_fld hA (w 1 1 (by omega) (by omega))
  have lt : y' < y ∨ (y' = y ∧ x' < x):=lt
  (refine zq ?_;repeat ((first | rw [i1']);refine zq ?_))
  refine br (y < y') (by rw [e_lss hA]) (fun q => by omega) (fun _ => ?_) <;> refine zc ?_
  (refine zq ?_;repeat ((first | rw [i1']);refine zq ?_))
  refine br (y = y') (by rw [e_eql hA]) (fun q => ?_) (fun q => ?_) <;> refine zc ?_
  rotate_left
  ·exact key.o
  (refine zq ?_;repeat ((first | rw [i1']);refine zq ?_))
  refine br (x ≤ x') (by rw [e_leq hA]) (fun q => by omega) (fun _ => ?_) <;> refine zc ?_
  exact key.o
 obtain ⟨hB,hhB⟩ : ∃ z,z = bump h9 12:=⟨_,rfl⟩
 have xB : Ext h9 hB:=by rw [hhB];exact ext_bump hA _ _
 have eB:=e9.trans xB
 obtain ⟨c0,c1,_,c3⟩:=R hB eB
 rw [← hhB]
 refine zq ?_
 have m1 : arith .mul .i64 (n - 1) ud = (n - 1) * ud:=by
  have k1:=cu.k1;have k6:=cu.c.2.2.1
  have:=mul_bd 7 6 (a:=n - 1) (b:=ud) (by omega) (by omega) (by omega) k6
  exact mul64 hA (by omega) (by omega)
 have m2 : arith .mul .i64 (n - 1) vd = (n - 1) * vd:=by
  have k1:=cv.k1;have k6:=cv.c.2.2.1
  have:=mul_bd 7 6 (a:=n - 1) (b:=vd) (by omega) (by omega) (by omega) k6
  exact mul64 hA (by omega) (by omega)
 apply zji (fun v => v = adj n un ud x)
 ·intro key
  refine br (x = 0) (by rw [e_eql hA]) (fun q => ?_) (fun q => ?_) <;> refine zc ?_
  rotate_left
  ·have hv : x = adj n un ud x:=by unfold adj;rw [if_neg (fun w => q w.1)]
   obtain ⟨v,ev⟩ : ∃ v,v = x:=⟨x,rfl⟩
   rw [← ev]
   exact key.o v (ev.trans hv)
  rw [M1]
  (refine zq ?_;repeat ((first | rw [m1]);refine zq ?_))
  refine br ((n - 1) * ud < un) (by rw [e_gtr hA]) (fun q2 => ?_) (fun q2 => ?_) <;> refine zc ?_
  ·exact key.o n (by unfold adj;rw [if_pos ⟨q,q2⟩])
  ·exact key.o x (by unfold adj;rw [if_neg (fun w => q2 w.2)])
 intro X hX
 apply zji (fun v => v = adj n vn vd y)
 ·intro key
  refine br (y = 0) (by rw [e_eql hA]) (fun q => ?_) (fun q => ?_) <;> refine zc ?_
  rotate_left
  ·have hv : y = adj n vn vd y:=by unfold adj;rw [if_neg (fun w => q w.1)]
   obtain ⟨v,ev⟩ : ∃ v,v = y:=⟨y,rfl⟩
   rw [← ev]
   exact key.o v (ev.trans hv)
  rw [M1]
  (refine zq ?_;repeat ((first | rw [m2]);refine zq ?_))
  refine br ((n - 1) * vd < vn) (by rw [e_gtr hA]) (fun q2 => ?_) (fun q2 => ?_) <;> refine zc ?_
  ·exact key.o n (by unfold adj;rw [if_pos ⟨q,q2⟩])
  ·exact key.o y (by unfold adj;rw [if_neg (fun w => q2 w.2)])
 intro Y hY
 have rX : 0 ≤ X ∧ X ≤ n:=by rw [hX];exact adj_range px0 px1
 have rY : 0 ≤ Y ∧ Y ≤ n:=by rw [hY];exact adj_range py0 py1
 have fX':=isF_int (n:=X) (by omega) (by omega)
 have fY':=isF_int (n:=Y) (by omega) (by omega)
 have bX:=P.bx n8 rX.1 rX.2
 have bY:=P.bx n8 rY.1 rY.2
 have all36 : ∀ e,e ∈ L → PartF n e:=fun e he => partF (s:=⟨un,ud,vn,vd⟩) cu cv (by rw [← hL];exact he)
 have i1'' : (i + 1).toNat ≤ L.length:=by omega
 have bs:=sum_fits (f:=Pk.w) (L:=L) (fun e he => (all36 e he).b.mono (by omega) (by omega)) few i1''
 have bu:=sum_fits (f:=fX n ⟨un,ud,vn,vd⟩) (L:=L) (fun e he => (all36 e he).bx n8 (adj_range (all36 e he).x0 (all36 e he).x1).1 (adj_range (all36 e he).x0 (all36 e he).x1).2) few i1''
 have bv:=sum_fits (f:=fY n ⟨un,ud,vn,vd⟩) (L:=L) (fun e he => (all36 e he).bx n8 (adj_range (all36 e he).y0 (all36 e he).y1).1 (adj_range (all36 e he).y0 (all36 e he).y1).2) few i1''
 rw [take_succ_sum _ L i0 (by omega),hg] at bs bu bv
 have gu : fX n ⟨un,ud,vn,vd⟩ ⟨x,y,wn,wd⟩ = Pk.w ⟨x,y,wn,wd⟩ * (X : Rat):=by rw [hX];rfl
 have gv : fY n ⟨un,ud,vn,vd⟩ ⟨x,y,wn,wd⟩ = Pk.w ⟨x,y,wn,wd⟩ * (Y : Rat):=by rw [hY];rfl
 rw [gu] at bu
 rw [gv] at bv
 have nxt : ∀ f : Pk → Rat,sumQ f (L.take (i + 1).toNat) = sumQ f (L.take i.toNat) + f ⟨x,y,wn,wd⟩:=fun f => by rw [take_succ_sum f L i0 (by omega),hg]
 obtain ⟨hC,hhC⟩ : ∃ z,z = bump hB 14:=⟨_,rfl⟩
 have xC : Ext hB hC:=by rw [hhC];exact ext_bump hA _ _
 have eC:=eB.trans xC
 have lC:=eC.lowOK hlow
 obtain ⟨_,_,_,d3⟩:=R hC eC
 rw [← hhC]
 refine zq ?_
 refine of_ok' hA (low_fresh hA hC) ⟨_,_,rfl,?_⟩
 refine zc ?_
 rw [low_same hA lC]
 refine mul_ok hA (low_fresh hA hC) pf.i64n pf.i64d fX'.i64n fX'.i64d (fun a1 a2 r1 k1 hz1 ez1 => ⟨_,_,_,rfl,?_⟩)
 obtain ⟨q1,rfl⟩:=opIs_of pf fX' (bX.fits (by omega) (by omega)) k1
 obtain ⟨hD,hhD⟩ : ∃ z,z = lowered hC hz1:=⟨_,rfl⟩
 have eD : Ext hC hD:=by rw [hhD];exact ext_low hA lC (.refl hC) ez1
 refine zc ?_
 rw [← hhD]
 refine ⟨fp_old hA (wrote_no hA (.refl _)) (by rw [e_addN hA,e_next hA];have:=eB.next;omega),?_⟩
 refine zq ?_
 have yD:=eC.trans eD
 obtain ⟨hE,hhE⟩ : ∃ z,z = bump hD 14:=⟨_,rfl⟩
 have xE : Ext hD hE:=by rw [hhE];exact ext_bump hA _ _
 have yE:=yD.trans xE
 have lE:=yE.lowOK hlow
 obtain ⟨_,_,_,d4⟩:=R hE yE
 rw [← hhE]
 refine zq ?_
 refine of_ok' hA (low_fresh hA hE) ⟨_,_,rfl,?_⟩
 refine zc ?_
 rw [low_same hA lE]
 refine mul_ok hA (low_fresh hA hE) pf.i64n pf.i64d fY'.i64n fY'.i64d (fun b1 b2 r2 k2 hz2 ez2 => ⟨_,_,_,rfl,?_⟩)
 obtain ⟨q2,rfl⟩:=opIs_of pf fY' (bY.fits (by omega) (by omega)) k2
 obtain ⟨hG,hhG⟩ : ∃ z,z = lowered hE hz2:=⟨_,rfl⟩
 have eG : Ext hE hG:=by rw [hhG];exact ext_low hA lE (.refl hE) ez2
 refine zc ?_
 rw [← hhG]
 refine ⟨fp_old hA (wrote_no hA (.refl _)) (by rw [e_addN hA,e_next hA];have:=yD.next;omega),?_⟩
 refine zq ?_
 have yG:=yE.trans eG
 obtain ⟨hH,hhH⟩ : ∃ z,z = bump hG 13:=⟨_,rfl⟩
 have xH : Ext hG hH:=by rw [hhH];exact ext_bump hA _ _
 have yH:=yG.trans xH
 have lH:=yH.lowOK hlow
 obtain ⟨_,_,_,d5⟩:=R hH yH
 rw [← hhH]
 refine zq ?_
 refine fadd_ok hA (low_fresh hA hH) fs.i64n fs.i64d pf.i64n pf.i64d (fun g1 g2 r3 k3 hz3 ez3 => ⟨_,_,_,rfl,?_⟩)
 obtain ⟨q3,rfl⟩:=opIs_of fs pf bs k3
 obtain ⟨hJ,hhJ⟩ : ∃ z,z = lowered hH hz3:=⟨_,rfl⟩
 have eJ : Ext hH hJ:=by rw [hhJ];exact ext_low hA lH (.refl hH) ez3
 refine zc ?_
 rw [← hhJ]
 refine zq ?_
 have yJ:=yH.trans eJ
 refine fadd_ok hA (yJ.lowOK hlow) fu.i64n fu.i64d q1.i64n q1.i64d (fun g3 g4 r4 k4 hK eK => ⟨_,_,_,rfl,?_⟩)
 obtain ⟨q4,rfl⟩:=opIs_of fu q1 bu k4
 have yK:=yJ.trans eK
 refine zc ?_
 refine fadd_ok hA (yK.lowOK hlow) fv.i64n fv.i64d q2.i64n q2.i64d (fun g5 g6 r5 k5 hM eM => ⟨_,_,_,rfl,?_⟩)
 obtain ⟨q5,rfl⟩:=opIs_of fv q2 bv k5
 have yM:=yK.trans eM
 refine zc ?_
 refine br False (by rw [e_neq hA];rfl) (fun q => q.elim) (fun _ => ?_) <;> refine zc ?_
 refine br False (by rw [e_neq hA];rfl) (fun q => q.elim) (fun _ => ?_) <;> refine zc ?_
 refine br False (by rw [e_neq hA];rfl) (fun q => q.elim) (fun _ => ?_) <;> refine zc ?_
 refine br False (by rw [e_neq hA];rfl) (fun q => q.elim) (fun _ => ?_) <;> refine zc ?_
 refine br False (by rw [e_neq hA];rfl) (fun q => q.elim) (fun _ => ?_) <;> refine zc ?_
 refine zq ?_
 rw [add64 hA (by omega) (by omega)]
 refine ih (i + 1) _ _ _ _ _ _ _ (by omega) (by omega) (by omega) ?_ ?_ ?_ (yM.trans (ext_bump hA _ _))
 ·rw [nxt];exact q3
 ·rw [nxt,gu];exact q4
 ·rw [nxt,gv];exact q5
theorem lparts_ok (hF : ∀ h,F 18 [] h = some (.bool true,h)) {h : AHeap} (hlow : h.low ≤ h.next) {n un ud vn vd : Int} (iu : i64 un ∧ i64 ud) (iv : i64 vn ∧ i64 vd) {Q : Value → AHeap → Prop}
  (hQ : ∀ h',Ext h h' → Q (.bool true) h') : call 5 [.int .i64 n,.agg #[.int .i64 un,.int .i64 ud,.int .i64 vn,.int .i64 vd]] h Q:=by
 refine hA.bodyR Try.func5 r5_ok (hA.alike _ _ _ rfl) hlow (zc ?_)
 refine hA.prim (hF h) ⟨_,rfl,?_⟩
 refine zc ?_
 rw [e_next hA,e_push hA]
 have e1:=Ext.push h 4 ([⟨un,ud,vn,vd⟩].flatMap Sk.cells)
 have o1:=Own.push h 4 ([⟨un,ud,vn,vd⟩].flatMap Sk.cells)
 have hs : Sps (h.push 4 ([⟨un,ud,vn,vd⟩].flatMap Sk.cells)) (some ⟨h.next,0,none⟩) 1 [⟨un,ud,vn,vd⟩]:=Own.rows o1 sk_len (by omega) (by simp [AHeap.push])
 have hall : allS [⟨un,ud,vn,vd⟩]:=fun i i0 i1 => by
  obtain rfl : i = 0:=by simp at i1;omega
  exact ⟨iu.1,iu.2,iv.1,iv.2⟩
 change call 15 [_,.slice (some ⟨h.next,0,none⟩) 1 1] (h.push 4 ([⟨un,ud,vn,vd⟩].flatMap Sk.cells)) _
 generalize h.push 4 ([⟨un,ud,vn,vd⟩].flatMap Sk.cells) = h1 at *
 refine rkcheck_ok hA (e1.lowOK hlow) hs hall (fun e h2 k2 x2 => ⟨_,rfl,?_⟩)
 have y2:=e1.trans x2
 have l2:=y2.lowOK hlow
 refine zc ?_
 refine br (e ≠ 0) (by rw [e_neq hA]) (fun c => ?_) (fun c => ?_) <;> refine zc ?_
 ·exact hQ h2 y2
 obtain rfl : e = 0:=by omega
 obtain ⟨⟨n2,n8⟩,_,hz⟩:=k2.zero
 obtain ⟨cu,cv⟩:=hz 0 (by omega) (by simp)
 have cu : Coord n un ud:=⟨cu,n2,n8⟩
 have cv : Coord n vn vd:=⟨cv,n2,n8⟩
 rw [show bnot true = false by rw [e_bnot hA];rfl]
 refine zc ?_
 refine parts_ok hA l2 iu iv (fun e h3 k3 c3 x3 => absurd (k3.uniq k2) c3) (fun b c N L h3 k3 D hp hs => ⟨_,_,_,_,rfl,?_⟩)
 obtain rfl : L = partsR n ⟨un,ud,vn,vd⟩ n:=sorted_parts (s:=⟨un,ud,vn,vd⟩) cu cv D.len hp hs
 obtain ⟨f1,f2,f3⟩:=parts_few (s:=⟨un,ud,vn,vd⟩) cu cv
 have y3:=y2.trans D.ext
 refine zc ?_
 have lN:=D.len
 refine br False (by rw [e_neq hA];rfl) (fun q => q.elim) (fun _ => ?_) <;> refine zc ?_
 refine br ((N : Int) < 1) (by rw [e_lss hA,e_ofNat hA]) (fun q => by omega) (fun _ => ?_) <;> refine zc ?_
 refine br (4 < (N : Int)) (by rw [e_gtr hA,e_ofNat hA]) (fun q => by omega) (fun _ => ?_) <;> refine zc ?_
 apply zj
 ·intro key
  refine br (ud = 1) (by rw [e_eql hA]) (fun c1 => ?_) (fun c1 => ?_) <;> refine zc ?_
  rotate_left
  ·exact key.o
  refine br (vd = 1) (by rw [e_eql hA]) (fun c2 => ?_) (fun c2 => ?_) <;> refine zc ?_
  rotate_left
  ·exact key.o
  refine br ((N : Int) ≠ 1) (by rw [e_neq hA,e_ofNat hA]) (fun q => by have:=f3 c1 c2;omega) (fun _ => ?_) <;> refine zc ?_
  exact key.o
 refine of_ok' hA (y3.lowOK hlow) ⟨_,_,rfl,?_⟩
 refine zc ?_
 refine of_ok' hA (y3.lowOK hlow) ⟨_,_,rfl,?_⟩
 refine zc ?_
 refine of_ok' hA (y3.lowOK hlow) ⟨_,_,rfl,?_⟩
 refine zc ?_
 have rows : Rows Pk.cells 4 h3 (some ⟨b,0,none⟩) N (partsR n ⟨un,ud,vn,vd⟩ n):=by
  have:=Own.rows D.own pk_len (by omega) D.lt
  rwa [lN] at this
 have z0 : isF 0 1 (0 : Rat):=isF_int (n:=0) (by omega) (by omega)
 refine lp_loop hA (y3.lowOK hlow) cu cv rfl rows D.lt (fun kn h' s1 s2 u1 u2 v1 v2 fs fu fv x' => ?_) N 0 h3 0 1 0 1 0 1 (by omega) (by omega) (by omega) z0 z0 z0 (.refl h3)
 obtain ⟨g1,g2,g3⟩:=sums (s:=⟨un,ud,vn,vd⟩) cu cv
 have ws : isF s1 s2 1:=by rw [← g1];exact fs
 have wu : isF u1 u2 (rq un ud):=by rw [← g2];exact fu
 have wv : isF v1 v2 (rq vn vd):=by rw [← g3];exact fv
 have ku:=cu.c.1.is
 have kv:=cv.c.1.is
 have w1 : s1 = 1:=ws.1
 have w2 : s2 = 1:=ws.2.1
 have w3 : u1 = un:=wu.1.trans ku.1.symm
 have w4 : u2 = ud:=wu.2.1.trans ku.2.1.symm
 have w5 : v1 = vn:=wv.1.trans kv.1.symm
 have w6 : v2 = vd:=wv.2.1.trans kv.2.1.symm
 rw [w1,w2,w3,w4,w5,w6]
 obtain ⟨hZ,hhZ⟩ : ∃ z,z = bump h' 19:=⟨_,rfl⟩
 have xZ : Ext h' hZ:=by rw [hhZ];exact ext_bump hA _ _
 have yZ:=(y3.trans x').trans xZ
 have lZ:=yZ.lowOK hlow
 refine zc ?_
 rw [← hhZ]
 refine of_ok' hA (low_fresh hA hZ) ⟨_,_,rfl,?_⟩
 refine zc ?_
 rw [low_same hA lZ]
 obtain ⟨r1,hr1,hr2⟩:=eqF 1 1 1 1
 obtain rfl : r1 = true:=hr2.2 ⟨rfl,rfl⟩
 obtain ⟨r2,hr3,hr4⟩:=eqF un ud un ud
 obtain rfl : r2 = true:=hr4.2 ⟨rfl,rfl⟩
 obtain ⟨r3,hr5,hr6⟩:=eqF vn vd vn vd
 obtain rfl : r3 = true:=hr6.2 ⟨rfl,rfl⟩
 rw [e_eqAgg hA]
 refine ⟨guardF,true,hr1,?_⟩
 refine zc ?_
 rw [e_eqAgg hA]
 refine ⟨guardF,true,hr3,?_⟩
 refine zc ?_
 rw [e_eqAgg hA]
 refine ⟨guardF,true,hr5,?_⟩
 refine zc ?_
 exact hQ hZ yZ
end Go.Proofs.Ytkbgkjlgnmlghaa
