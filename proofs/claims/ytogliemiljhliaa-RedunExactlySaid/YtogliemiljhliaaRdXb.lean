import Derived.Test.YtogliemiljhliaaRdXa
set_option linter.unusedSimpArgs false
set_option linter.unusedVariables false
namespace Go.Proofs.Ytogliemiljhliaa
open Go.Sim Ext
set_option linter.unusedVariables false
set_option maxRecDepth 100000
def DegF (l : List Int) (r : List Fc) : Prop:=∃ v L,r = lst (fun j => fr (v j) L) (wid l) ∧ L ≠ 0 ∧ L.natAbs ≤ 1000000000 ∧ (∀ j,j < wid l → (v j).natAbs ≤ 1000000000) ∧ Deg l v
variable {F : Prims} {call head arith cmp scmp bnot bsame conv neg imax imin ofNat slen place inR nz geZ rd wr push next mkOK nat zeros sadd eqAgg cut slc sslc strAt part app cpy putAt fresh lowered bump wrote addN lt ne fpAll fpApp brk yn rng mget mput mnew bytes clr : _} (hA : AP F ⟨call,head,arith,cmp,scmp,bnot,bsame,conv,neg,imax,imin,ofNat,slen,place,inR,nz,geZ,rd,wr,push,next,mkOK,nat,zeros,sadd,eqAgg,cut,slc,sslc,strAt,part,app,cpy,putAt,fresh,lowered,bump,wrote,addN,lt,ne,fpAll,fpApp,brk,yn,rng,mget,mput,mnew,bytes,clr⟩)
include hA
set_option maxHeartbeats 1000000 in
theorem exr_loop {h0 : AHeap} (hlow : h0.low ≤ h0.next) {l : List Int} (ln : Line l) {ar : Option Addr} {M cr : Nat} {hs : List Hd} (hr : GrR iC 1 h0 ar M hs (rowsL l)) (M100 : M ≤ 100) {al : Option Addr} {A ca : Nat} {ha : List Hd} {g : List (List Fc)} (hg : GrR fC 2 h0 al A ha g) {i : Nat} {I : Int} (eI : I = i) (hi : i < A) (hd : DegF l (gt g (i : Int))) {W : Int} (eW : W = wid l) {a8 a13 a14 : Option Addr} {n8 c8 n13 c13 n14 c14 : Nat} {Q : Exit → SS → Prop}
  (hQ : ∀ h',Ext h0 h' → Q (.exit 6) ⟨[(3,.bool true),(6,.slice ar M cr),(8,.slice a8 n8 c8),(12,.int .i64 W),(13,.slice a13 n13 c13),(14,.slice a14 n14 c14),(17,.slice al A ca),(18,.int .i64 I)],0,[],h'⟩) :
  ∀ (d k : Nat) (K : Int) (h : AHeap),M - k = d → k ≤ M → K = k → Ext h0 h →
   head 5 27 0 ⟨[(3,.bool true),(6,.slice ar M cr),(8,.slice a8 n8 c8),(12,.int .i64 W),(13,.slice a13 n13 c13),(14,.slice a14 n14 c14),(17,.slice al A ca),(18,.int .i64 I),(19,.int .i64 K)],0,[],h⟩ Q:=by
 have lM : (rowsL l).length = M:=hr.len
 have lP:=rowsL_len l
 have w50:=wid_few ln
 obtain ⟨v,L,eg,hL,hL2,hv,hdeg⟩:=hd
 intro d
 induction d with
 | zero =>
  intro k K h hd hk eK e
  obtain rfl : k = M:=by omega
  refine hA.roundR Try.func5 r5_ok (zc ?_)
  refine br (K < (k : Int)) (by rw [e_lss hA,e_ofNat hA]) (fun q => by omega) (fun _ => ?_) <;> refine zc ?_
  exact hQ h e
 | succ d ih =>
 intro k K h hd hk eK e
 obtain ⟨h9,hh9⟩ : ∃ z,z = bump h 20:=⟨_,rfl⟩
 have x9 : Ext h h9:=by rw [hh9];exact ext_bump hA _ _
 have n9 : h9.next = h.next + 20:=by rw [hh9,e_bump hA];rfl
 have e9:=e.trans x9
 have l9:=e9.lowOK hlow
 have hr9:=hr.ext e9
 have hg9:=hg.ext e9
 obtain ⟨rb,ro,ea,lrb⟩:=hr9.some (by omega)
 subst ea
 obtain ⟨gb,go,ea,lgb⟩:=hg9.some (by omega)
 subst ea
 have r0:=gr_head hA hr9 (y:=K) (by omega) (by omega)
 have g0:=gr_head hA hg9 (y:=I) (by omega) (by omega)
 have rr:=hr9.row K (by omega) (by omega)
 have rg:=hg9.row I (by omega) (by omega)
 obtain ⟨ra,rn,rc,hh⟩ : ∃ p q r,gt hs K = ⟨p,q,r⟩:=⟨_,_,_,rfl⟩
 obtain ⟨qa,qn,qc,hq⟩ : ∃ p q r,gt ha I = ⟨p,q,r⟩:=⟨_,_,_,rfl⟩
 rw [hh] at r0 rr
 rw [hq] at g0 rg
 rw [eI,eg] at rg
 have rg : Rows fC 2 h9 qa qn (lst (fun j => fr (v j) L) (wid l)):=rg
 have rr : Is h9 ra rn (gt (rowsL l) K):=rr
 obtain ⟨p,hp⟩ : ∃ p,p = gt (pairsL l.length) K:=⟨_,rfl⟩
 have pm : p ∈ pairsL l.length:=by rw [hp];exact gt_mem _ (by omega) (by omega)
 have er : gt (rowsL l) K = rowF l p:=by rw [rowsL_gt (by omega) (by omega),hp]
 rw [er] at rr
 have lq : wid l = qn:=by rw [← rg.len,lst_len]
 have lr : rn = qn:=by rw [← rr.len,rowF_len];exact lq
 subst lr
 rw [lq] at rg hv eW w50
 have hz:=hdeg p pm
 rw [lq] at hz
 refine hA.roundR Try.func5 r5_ok (zc ?_)
 refine br (K < (M : Int)) (by rw [e_lss hA,e_ofNat hA]) (fun _ => ?_) (fun q => by omega) <;> refine zc ?_
 refine zq ?_
 rw [← hh9]
 refine zq ?_
 refine br ((rn : Int) ≠ W) (by rw [e_neq hA,e_ofNat hA]) (fun q => absurd eW.symm q) (fun _ => ?_) <;> refine zc ?_
 refine zq ?_
 refine of31_ok hA (low_fresh hA h9) ⟨_,_,rfl,?_⟩
 refine zc ?_
 rw [low_same hA l9]
 refine zq ?_
 have sm : ∀ j : Nat,j < rn → (gt (rowF l p) (j : Int)).natAbs ≤ 1:=fun j hj => by
  rw [rowF_gt ln pm (by omega) (by omega)]
  split
  ·decide
  ·split
   ·decide
   ·split <;> decide
 refine gives_ok hA (low_fresh hA h9) (rr.ext (ext_fresh hA h9)) (rg.ext (ext_fresh hA h9)) (by omega) hL hL2 sm hv hz (fun hz ez => ⟨_,rfl,?_⟩)
 obtain ⟨hX,hhX⟩ : ∃ z,z = lowered h9 hz:=⟨_,rfl⟩
 have eX : Ext h9 hX:=by rw [hhX];exact ext_low hA l9 (.refl h9) ez
 refine zc ?_
 rw [← hhX]
 refine zq ?_
 refine ⟨fp_old hA (wrote_no hA (.refl _)) (by rw [e_addN hA,e_next hA];omega),fp_old hA (wrote_no hA (.refl _)) (by rw [e_addN hA,e_next hA];omega),?_⟩
 refine zq ?_
 refine br False (by rw [e_bnot hA];rfl) (fun q => q.elim) (fun _ => ?_) <;> refine zc ?_
 refine zq ?_
 rw [add64 hA (by omega) (by omega)]
 exact ih (k + 1) (K + 1) hX (by omega) (by omega) (by omega) (e9.trans eX)
set_option maxHeartbeats 1000000 in
theorem exo_loop {h0 : AHeap} (hlow : h0.low ≤ h0.next) {l : List Int} (ln : Line l) {ar : Option Addr} {M cr : Nat} {hs : List Hd} (hr : GrR iC 1 h0 ar M hs (rowsL l)) (M100 : M ≤ 100) {al : Option Addr} {A ca : Nat} {ha : List Hd} {g : List (List Fc)} (hg : GrR fC 2 h0 al A ha g) (A100 : A ≤ 200) (hd : ∀ i : Nat,i < A → DegF l (gt g (i : Int))) {W : Int} (eW : W = wid l) {a8 a13 a14 : Option Addr} {n8 c8 n13 c13 n14 c14 : Nat} {Q : Exit → SS → Prop}
  (hQ : ∀ h',Ext h0 h' → Q (.exit 4) ⟨[(3,.bool true),(8,.slice a8 n8 c8),(13,.slice a13 n13 c13),(14,.slice a14 n14 c14)],0,[],h'⟩) :
  ∀ (d k : Nat) (K : Int) (h : AHeap),A - k = d → k ≤ A → K = k → Ext h0 h →
   head 5 22 0 ⟨[(3,.bool true),(6,.slice ar M cr),(8,.slice a8 n8 c8),(12,.int .i64 W),(13,.slice a13 n13 c13),(14,.slice a14 n14 c14),(17,.slice al A ca),(18,.int .i64 K)],0,[],h⟩ Q:=by
 have w50:=wid_few ln
 intro d
 induction d with
 | zero =>
  intro k K h hd' hk eK e
  obtain rfl : k = A:=by omega
  refine hA.roundR Try.func5 r5_ok (zc ?_)
  refine br (K < (k : Int)) (by rw [e_lss hA,e_ofNat hA]) (fun q => by omega) (fun _ => ?_) <;> refine zc ?_
  exact hQ h e
 | succ d ih =>
 intro k K h hd' hk eK e
 have hg9:=hg.ext e
 obtain ⟨gb,go,ea,lgb⟩:=hg9.some (by omega)
 subst ea
 have g0:=gr_head hA hg9 (y:=K) (by omega) (by omega)
 have rg:=hg9.row K (by omega) (by omega)
 obtain ⟨qa,qn,qc,hq⟩ : ∃ p q r,gt ha K = ⟨p,q,r⟩:=⟨_,_,_,rfl⟩
 rw [hq] at g0 rg
 obtain ⟨v,L,eg,_⟩:=hd k (by omega)
 rw [eK,eg] at rg
 have lq : wid l = qn:=by have:=rg.len;rw [lst_len] at this;exact this
 refine hA.roundR Try.func5 r5_ok (zc ?_)
 refine br (K < (A : Int)) (by rw [e_lss hA,e_ofNat hA]) (fun _ => ?_) (fun q => by omega) <;> refine zc ?_
 refine zq ?_
 refine br ((qn : Int) ≠ W) (by rw [e_neq hA,e_ofNat hA]) (fun q => absurd (by omega) q) (fun _ => ?_) <;> refine zc ?_
 refine exr_loop hA hlow ln hr M100 hg eK (by omega) (hd k (by omega)) eW (fun h2 e2 => ?_) M 0 0 h (by omega) (by omega) rfl e
 refine zc ?_
 rw [add64 hA (by omega) (by omega)]
 exact ih (k + 1) (K + 1) h2 (by omega) (by omega) (by omega) e2
end Go.Proofs.Ytogliemiljhliaa
