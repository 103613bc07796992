import Derived.Test.YtogliemiljhliaaRdEx
set_option linter.unusedSimpArgs false
set_option linter.unusedVariables false
namespace Go.Proofs.Ytogliemiljhliaa
open Go.Sim Ext
set_option linter.unusedVariables false
set_option maxRecDepth 100000
def conV (l : List Int) (j : Nat) : Int:=if j < l.length then 1 else 0
def tilV (l : List Int) (j : Nat) : Int:=if j < l.length then gt l (j : Int) else gt (clsL l) ((j : Int) - l.length)
theorem row_sum {l : List Int} (ln : Line l) {p : P2} (hp : p ∈ pairsL l.length) (v : Nat → Int) : sumN (fun j => gt (rowF l p) (j : Int) * v j) (wid l) = v p.i.toNat - v p.j.toNat + v (l.length + ixI (clsL l) (diffOf l p)).toNat:=by
 obtain ⟨h0,h1,h2⟩:=mem_pairs.1 hp
 obtain ⟨i0,i1,i2⟩:=ixI_mem (diff_mem ln hp)
 have hwid : wid l = l.length + (clsL l).length:=rfl
 rw [sumN_congr (g:=fun j => (v j * (if j = p.i.toNat then 1 else 0) + v j * (if j = p.j.toNat then -1 else 0)) + v j * (if j = (l.length + ixI (clsL l) (diffOf l p)).toNat then 1 else 0)) (wid l) (fun j hj => by
  rw [rowF_gt ln hp (by omega) (by omega)]
  generalize ixI (clsL l) (diffOf l p) = k at *
  by_cases a : (j : Int) = l.length + k
  ·rw [if_pos a,if_neg (by omega),if_neg (by omega),if_pos (by omega)];omega
  ·rw [if_neg a]
   by_cases b : (j : Int) = p.j
   ·rw [if_pos b,if_neg (by omega),if_pos (by omega),if_neg (by omega)];omega
   ·rw [if_neg b]
    by_cases c : (j : Int) = p.i
    ·rw [if_pos c,if_pos (by omega),if_neg (by omega),if_neg (by omega)];omega
    ·rw [if_neg c,if_neg (by omega),if_neg (by omega),if_neg (by omega)];omega),
  sumN_add (fun j => v j * (if j = p.i.toNat then 1 else 0) + v j * (if j = p.j.toNat then -1 else 0)) (fun j => v j * (if j = (l.length + ixI (clsL l) (diffOf l p)).toNat then 1 else 0)),
  sumN_add (fun j => v j * (if j = p.i.toNat then 1 else 0)) (fun j => v j * (if j = p.j.toNat then -1 else 0)),sumN_pick v (by omega),sumN_pick v (by omega),sumN_pick v (by omega)]
 omega
def Deg (l : List Int) (v : Nat → Int) : Prop:=∀ p,p ∈ pairsL l.length → sumN (fun j => gt (rowF l p) (j : Int) * v j) (wid l) = 0
theorem con_deg {l : List Int} (ln : Line l) : Deg l (conV l):=fun p hp => by
 obtain ⟨h0,h1,h2⟩:=mem_pairs.1 hp
 obtain ⟨i0,i1,i2⟩:=ixI_mem (diff_mem ln hp)
 rw [row_sum ln hp]
 unfold conV
 rw [if_pos (by omega),if_pos (by omega),if_neg (by omega)];rfl
theorem til_deg {l : List Int} (ln : Line l) : Deg l (tilV l):=fun p hp => by
 obtain ⟨h0,h1,h2⟩:=mem_pairs.1 hp
 obtain ⟨i0,i1,i2⟩:=ixI_mem (diff_mem ln hp)
 rw [row_sum ln hp]
 unfold tilV
 rw [if_pos (by omega),if_pos (by omega),if_neg (by omega),show ((p.i.toNat : Nat) : Int) = p.i by omega,show ((p.j.toNat : Nat) : Int) = p.j by omega,show (((l.length + ixI (clsL l) (diffOf l p)).toNat : Nat) : Int) - l.length = ixI (clsL l) (diffOf l p) by omega,i2]
 unfold diffOf;omega
theorem line_end {l right : List Int} (hr : right.length = (pairsL l.length).length) (ln : Line l) (hb : ∀ i : Int,0 ≤ i → i < right.length → (gt right i).natAbs ≤ 99) :
  Ech (pairsL l.length).length (SE l right) (wid l) ∧ Fine (pairsL l.length).length (wid l) (SE l right) ∧ ∀ v,Deg l v ↔ Nul (wid l) (pairsL l.length).length (SE l right).R v:=by
 have hA : ∀ j,j < wid l → vn (pairsL l.length).length (colV l right j) ≤ 4:=fun j hj => col_few hr ln hj
 have g0 : Good (pairsL l.length).length (wid l) (colV l right) 4 (S0 l right) E 1:=Good.start (by omega)
 obtain ⟨W,s,g⟩:=g0.run hA (wid l) (Nat.le_refl _)
 refine ⟨Ech.run rfl (show (1 : Int) ≠ 0 by decide) (wid l),(line_fine hr ln hb (wid l) (Nat.le_refl _)).1,fun v => ?_⟩
 rw [show (SE l right).R = (run (pairsL l.length).length (S0 l right) (wid l)).R from rfl,← g.nul]
 constructor
 ·intro h r hr'
  rw [← h (gt (pairsL l.length) (r : Int)) (gt_mem _ (by omega) (by omega))]
  exact sumN_congr _ (fun j hj => by show R0 l right r j * v j = _;rw [R0_row hr ln hr' hj])
 ·intro h p hp
  obtain ⟨i,i0,i1,e⟩:=mem_gt hp
  have:=h i.toNat (by omega)
  rw [← this]
  refine sumN_congr _ (fun j hj => ?_)
  show _ = R0 l right i.toNat j * v j
  rw [R0_row hr ln (by omega) hj,show ((i.toNat : Nat) : Int) = i by omega,e]
theorem free_two {l : List Int} (ln : Line l) {S : St} (e : Ech (pairsL l.length).length S (wid l)) (hn : ∀ v,Deg l v → Nul (wid l) (pairsL l.length).length S.R v) : 2 ≤ (freeL S (wid l)).length:=by
 have hc:=hn _ (con_deg ln)
 have ht:=hn _ (til_deg ln)
 have n2:=ln.n2
 have dm:=diff_mem ln (p:=⟨0,1⟩) (mem_pairs.2 ⟨by simp only;omega,by simp only;omega,by simp only;omega⟩)
 have cl:=List.length_pos_of_mem dm
 have hwid : wid l = l.length + (clsL l).length:=rfl
 have lastT : 1 ≤ tilV l (wid l - 1):=by
  unfold tilV
  rw [if_neg (by omega)]
  have:=gt_mem (clsL l) (i:=((wid l - 1 : Nat) : Int) - l.length) (by omega) (by omega)
  exact (mem_clsL.1 this).1.1
 have lastC : conV l (wid l - 1) = 0:=by unfold conV;rw [if_neg (by omega)]
 have firstC : conV l 0 = 1:=by unfold conV;rw [if_pos (by omega)]
 have c0:=span_free e hc (k:=0) (by omega)
 have cL:=span_free e hc (k:=wid l - 1) (by omega)
 have tL:=span_free e ht (k:=wid l - 1) (by omega)
 rw [firstC] at c0
 rw [lastC] at cL
 have hl:=e.lead
 match h : freeL S (wid l) with
 | [] =>
  rw [h] at c0
  have : S.lead * 1 = 0:=c0.symm
  omega
 | [c] =>
  rw [h] at c0 cL tL
  have z : ∀ f : Nat → Int,lsum f [c] = f c:=fun f => by unfold lsum;simp
  rw [z] at c0 cL tL
  rw [Int.mul_zero] at cL
  rw [Int.mul_one] at c0
  have hcc : conV l c ≠ 0:=fun q => by rw [q,Int.zero_mul] at c0;exact hl c0.symm
  have hb : bV S c (wid l - 1) = 0:=(Int.mul_eq_zero.1 cL).resolve_left hcc
  rw [hb,Int.mul_zero] at tL
  have:=(Int.mul_eq_zero.1 tL.symm).resolve_left hl
  omega
 | a :: b :: L => simp only [List.length_cons];omega
end Go.Proofs.Ytogliemiljhliaa
namespace Go.Proofs.Ytogliemiljhliaa
open Go.Sim Ext
set_option linter.unusedVariables false
set_option maxRecDepth 100000
variable {F : Prims} {call head arith cmp scmp bnot bsame conv neg imax imin ofNat slen place inR nz geZ rd wr push next mkOK nat zeros sadd eqAgg cut slc sslc strAt part app cpy putAt fresh lowered bump wrote addN lt ne fpAll fpApp brk yn rng mget mput mnew bytes clr : _} (hA : AP F ⟨call,head,arith,cmp,scmp,bnot,bsame,conv,neg,imax,imin,ofNat,slen,place,inR,nz,geZ,rd,wr,push,next,mkOK,nat,zeros,sadd,eqAgg,cut,slc,sslc,strAt,part,app,cpy,putAt,fresh,lowered,bump,wrote,addN,lt,ne,fpAll,fpApp,brk,yn,rng,mget,mput,mnew,bytes,clr⟩)
include hA
theorem gives_loop {h0 : AHeap} (hlow : h0.low ≤ h0.next) {a : Option Addr} {N c : Nat} {row : List Int} (hr : Is h0 a N row) {ax : Option Addr} {cx : Nat} {v : Nat → Int} {L : Int} (hx : Rows fC 2 h0 ax N (lst (fun j => fr (v j) L) N)) (n100 : N ≤ 100) (hL : L ≠ 0) (hL2 : L.natAbs ≤ 1000000000) (h1 : ∀ j : Nat,j < N → (gt row (j : Int)).natAbs ≤ 1) (hv : ∀ j,j < N → (v j).natAbs ≤ 1000000000) {Q : Exit → SS → Prop}
  (hQ : ∀ h' sn sd,fr (sumN (fun j => gt row (j : Int) * v j) N) L = ⟨sn,sd⟩ → Ext h0 h' → Q (.exit 0) ⟨[(5,.pointer (some ⟨0,0,some 0⟩)),(7,.pointer (some ⟨1,0,some 0⟩))],2,[(0,[.int .i64 0,.int .i64 1]),(1,[.int .i64 sn,.int .i64 sd])],h'⟩) :
  ∀ (d k : Nat) (K : Int) (h : AHeap) (sn sd : Int),N - k = d → k ≤ N → K = k → fr (sumN (fun j => gt row (j : Int) * v j) k) L = ⟨sn,sd⟩ → Ext h0 h →
   head 25 3 2 ⟨[(0,.slice a N c),(1,.slice ax N cx),(5,.pointer (some ⟨0,0,some 0⟩)),(7,.pointer (some ⟨1,0,some 0⟩)),(8,.int .i64 K)],2,[(0,[.int .i64 0,.int .i64 1]),(1,[.int .i64 sn,.int .i64 sd])],h⟩ Q:=by
 have lr:=hr.len
 have small : ∀ k,k ≤ N → (sumN (fun j => gt row (j : Int) * v j) k).natAbs ≤ 100000000000:=fun k hk => by
  have:=sumN_small (f:=fun j => gt row (j : Int) * v j) (B:=1000000000) k (fun j hj => by
   rw [Int.natAbs_mul]
   exact Nat.le_trans (Nat.mul_le_mul (h1 j (by omega)) (hv j (by omega))) (by decide))
  have : k * 1000000000 ≤ 100 * 1000000000:=Nat.mul_le_mul_right _ (by omega)
  omega
 intro d
 induction d with
 | zero =>
  intro k K h sn sd hd hk eK es e
  obtain rfl : k = N:=by omega
  refine hA.roundR Try.func25 r25_ok (zc ?_)
  refine br (K < (k : Int)) (by rw [e_lss hA,e_ofNat hA]) (fun q => by omega) (fun _ => ?_) <;> refine zc ?_
  exact hQ h _ _ es e
 | succ d ih =>
 intro k K h sn sd hd hk eK es e
 obtain ⟨h9,hh9⟩ : ∃ z,z = bump h 16:=⟨_,rfl⟩
 have x9 : Ext h h9:=by rw [hh9];exact ext_bump hA _ _
 have n9 : h9.next = h.next + 16:=by rw [hh9,e_bump hA];rfl
 have e9:=e.trans x9
 have l9:=e9.lowOK hlow
 obtain ⟨rb,ro,y,ea,_,hy,ry⟩:=is_at (hr.ext e9) (i:=K) (by omega) (by omega)
 subst ea
 have qy:=rd_ok hA ry
 obtain ⟨xb,xo,ea,lx,r3⟩:=(hx.ext e9).at (i:=K) (by omega) (by omega)
 subst ea
 obtain ⟨xn,xd,hxx⟩ : ∃ x y,fr (v k) L = ⟨x,y⟩:=⟨_,_,rfl⟩
 have r3:=r3 0 2 (by omega) (by omega)
 rw [show gt (lst (fun j => fr (v j) L) N) K = ⟨xn,xd⟩ by rw [eK,lst_gt _ (by omega)];exact hxx] at r3
 have r3 : rd h9 xb (place xo K 2) 2 [.int .i64 xn,.int .i64 xd]:=rd_ok hA r3
 have y1 : y.natAbs ≤ 1:=by have:=h1 k (by omega);rw [← hy,eK];exact this
 have iy : isF y 1 (rq y 1):=by have:=fr_is (a:=y) (b:=1) (by omega) (by omega) (by decide);rw [fr_int] at this;exact this
 have ix : isF xn xd (rq (v k) L):=by have:=fr_is (a:=v k) (b:=L) (by have:=hv k (by omega);omega) (by omega) hL;rw [hxx] at this;exact this
 have is : isF sn sd (rq (sumN (fun j => gt row (j : Int) * v j) k) L):=by have:=fr_is (a:=sumN (fun j => gt row (j : Int) * v j) k) (b:=L) (by have:=small k (by omega);omega) (by omega) hL;rw [es] at this;exact this
 have ep : rq y 1 * rq (v k) L = rq (y * v k) L:=by rw [rq_mul (by decide) hL,Int.one_mul]
 have eq : rq (sumN (fun j => gt row (j : Int) * v j) k) L + rq (y * v k) L = rq (sumN (fun j => gt row (j : Int) * v j) (k + 1)) L:=by
  show _ = rq (sumN (fun j => gt row (j : Int) * v j) k + gt row (k : Int) * v k) L
  rw [← eK,hy]
  have:=cast_ne0 hL
  unfold rq
  rw [Rat.intCast_add]
  grind
 have fp : fits (rq y 1 * rq (v k) L):=by rw [ep];exact fits_rq (by rw [Int.natAbs_mul];exact Nat.le_trans (Nat.mul_le_mul y1 (hv k (by omega))) (by decide)) (by omega) hL
 have fs : fits (rq (sumN (fun j => gt row (j : Int) * v j) k) L + rq (y * v k) L):=by rw [eq];exact fits_rq (by have:=small (k + 1) (by omega);omega) (by omega) hL
 refine hA.roundR Try.func25 r25_ok (zc ?_)
 refine br (K < (N : Int)) (by rw [e_lss hA,e_ofNat hA]) (fun _ => ?_) (fun q => by omega) <;> refine zc ?_
 refine zq ?_
 rw [← hh9]
 refine zq ?_
 refine of_ok' hA (low_fresh hA h9) ⟨_,_,rfl,?_⟩
 refine zc ?_
 rw [low_same hA l9]
 refine zq ?_
 refine rmul_ok hA (low_fresh hA h9) iy.i64n iy.i64d ix.i64n ix.i64d (fun u w r k1 hz ez => ⟨_,_,_,rfl,?_⟩)
 obtain ⟨j1,rfl⟩:=opIs_of iy ix fp k1
 obtain ⟨hX,hhX⟩ : ∃ z,z = lowered h9 hz:=⟨_,rfl⟩
 have eX : Ext h9 hX:=by rw [hhX];exact ext_low hA l9 (.refl h9) ez
 refine zc ?_
 rw [← hhX]
 refine zq ?_
 refine ⟨fp_old hA (wrote_no hA (.refl _)) (by rw [e_addN hA,e_next hA];omega),wrote_no hA (.refl _),wrote_no hA ez,?_⟩
 refine zq ?_
 refine br True (by rw [e_eql hA];rfl) (fun _ => ?_) (fun q => absurd trivial q) <;> refine zc ?_
 refine zq ?_
 rw [ep] at j1
 refine radd_ok hA ((e9.trans eX).lowOK hlow) is.i64n is.i64d j1.i64n j1.i64d (fun u' w' r' k2 hw ew => ⟨_,_,_,rfl,?_⟩)
 obtain ⟨j2,rfl⟩:=opIs_of is j1 fs k2
 refine zc ?_
 refine zq ?_
 refine br False (by rw [e_neq hA];rfl) (fun q => q.elim) (fun _ => ?_) <;> refine zc ?_
 refine zq ?_
 rw [add64 hA (by omega) (by omega)]
 rw [eq] at j2
 exact ih (k + 1) (K + 1) hw _ _ (by omega) (by omega) (by omega) (fr_eq j2 rfl).symm ((e9.trans eX).trans ew)
theorem gives_ok {h : AHeap} (hlow : h.low ≤ h.next) {a : Option Addr} {N c : Nat} {row : List Int} (hr : Is h a N row) {ax : Option Addr} {cx : Nat} {v : Nat → Int} {L : Int} (hx : Rows fC 2 h ax N (lst (fun j => fr (v j) L) N)) (n100 : N ≤ 100) (hL : L ≠ 0) (hL2 : L.natAbs ≤ 1000000000) (h1 : ∀ j : Nat,j < N → (gt row (j : Int)).natAbs ≤ 1) (hv : ∀ j,j < N → (v j).natAbs ≤ 1000000000) (hz : sumN (fun j => gt row (j : Int) * v j) N = 0) {Q : Value → AHeap → Prop}
  (hQ : ∀ h',Ext h h' → Q (.bool true) h') : call 25 [.slice a N c,.slice ax N cx,.agg #[.int .i64 0,.int .i64 1]] h Q:=by
 refine hA.bodyR Try.func25 r25_ok (hA.alike _ _ _ rfl) hlow (zc ?_)
 refine of_ok' hA hlow ⟨_,_,rfl,?_⟩
 refine zq ?_
 refine gives_loop hA hlow hr hx n100 hL hL2 h1 hv (fun h' sn sd es e => ?_) N 0 0 h 0 1 (by omega) (by omega) rfl (fr_zero L) (.refl h)
 rw [hz,fr_zero] at es
 cases es
 refine zq ?_
 obtain ⟨r,hr1,hr2⟩:=eqF 0 1 0 1
 obtain rfl : r = true:=hr2.2 ⟨rfl,rfl⟩
 rw [e_eqAgg hA]
 refine ⟨guardF,true,hr1,?_⟩
 refine zc ?_
 exact hQ h' e
end Go.Proofs.Ytogliemiljhliaa
