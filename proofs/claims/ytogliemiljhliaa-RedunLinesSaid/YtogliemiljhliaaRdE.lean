import Derived.Test.YtogliemiljhliaaRdD
set_option linter.unusedSimpArgs false
set_option linter.unusedVariables false
namespace Go.Proofs.Ytogliemiljhliaa
open Go.Sim
set_option linter.unusedVariables false
set_option maxRecDepth 100000
def bC (x : Bool) : List Value:=[.bool x]
theorem bC_len (x : Bool) : (bC x).length = 1:=rfl
theorem copies_bool (n : Nat) : copies [.bool false] n = (List.replicate n false).flatMap bC:=by
 induction n with
 | zero => rfl
 | succ n ih => unfold copies;rw [ih,List.replicate_succ,List.flatMap_cons];rfl
theorem rowF_at (l : List Int) {p : P2} (ln : Line l) (hp : p ∈ pairsL l.length) {k : Int} (k0 : 0 ≤ k) (k1 : k < wid l) : gt (rowF l p) k = if k = l.length + ixI (clsL l) (diffOf l p) then 1 else if k = p.j then -1 else if k = p.i then 1 else 0:=by
 obtain ⟨a,b,c⟩:=mem_pairs.1 hp
 obtain ⟨x0,x1,_⟩:=ixI_mem (diff_mem ln hp)
 have w : wid l = l.length + (clsL l).length:=rfl
 unfold rowF
 rw [gt_set _ (by omega) k0 (by simp [zrow];omega),gt_set _ (by omega) k0 (by simp [zrow];omega),gt_set _ (by omega) k0 (by simp [zrow];omega)]
 have z : gt (zrow (wid l)) k = 0:=by unfold gt zrow;rw [List.getD_eq_getElem?_getD,List.getElem?_replicate,if_pos (by omega)];rfl
 rw [z]
theorem cls_at_eq {l : List Int} (ln : Line l) {q : Int} (q0 : 0 ≤ q) (q1 : q < (clsL l).length) {d : Int} (hd : d ∈ clsL l) : gt (clsL l) q = d ↔ q = ixI (clsL l) d:=by
 obtain ⟨x0,x1,x2⟩:=ixI_mem hd
 constructor
 ·intro e
  have pw:=List.pairwise_iff_getElem.1 (clsL_lt l)
  have g : ∀ z : Int,0 ≤ z → (h : z < (clsL l).length) → gt (clsL l) z = (clsL l)[z.toNat]'(by omega):=fun z z0 z1 => by
   unfold gt;rw [List.getD_eq_getElem?_getD,List.getElem?_eq_getElem (by omega)];rfl
  rcases Int.lt_trichotomy q (ixI (clsL l) d) with h | h | h
  ·have:=pw q.toNat (ixI (clsL l) d).toNat (by omega) (by omega) (by omega)
   rw [← g q q0 q1,← g _ x0 x1,e,x2] at this;omega
  ·exact h
  ·have:=pw (ixI (clsL l) d).toNat q.toNat (by omega) (by omega) (by omega)
   rw [← g q q0 q1,← g _ x0 x1,e,x2] at this;omega
 ·rintro rfl;exact x2
theorem pUpTo_pre (n : Int) {m : Int} (m0 : 0 ≤ m) : ∀ d : Nat,∃ r,pUpTo n (m + d) = pUpTo n m ++ r
 | 0 => ⟨[],by simp⟩
 | d + 1 => by
  obtain ⟨r,hr⟩:=pUpTo_pre n m0 d
  rw [show m + ((d + 1 : Nat) : Int) = m + d + 1 by omega,pUpTo_succ (by omega),hr]
  exact ⟨_,by rw [List.append_assoc]⟩
theorem pRow_pre (i : Int) {m : Int} (m0 : 0 ≤ m) : ∀ d : Nat,∃ r,pRow i (m + d) = pRow i m ++ r
 | 0 => ⟨[],by simp⟩
 | d + 1 => by
  obtain ⟨r,hr⟩:=pRow_pre i m0 d
  rw [show m + ((d + 1 : Nat) : Int) = m + d + 1 by omega,pRow_succ (by omega),hr]
  exact ⟨_,by rw [List.append_assoc]⟩
theorem pairs_split {N : Nat} {i j : Int} (i0 : 0 ≤ i) (ij : i < j) (jN : j < N) : ∃ r,pairsL N = (pUpTo N i ++ pRow i j) ++ (⟨i,j⟩ : P2) :: r:=by
 obtain ⟨r1,h1⟩:=pUpTo_pre N (m:=i + 1) (by omega) (N - (i + 1)).toNat
 obtain ⟨r2,h2⟩:=pRow_pre i (m:=j + 1) (by omega) (N - (j + 1)).toNat
 rw [show i + 1 + ((N - (i + 1)).toNat : Int) = N by omega,pUpTo_succ i0] at h1
 rw [show j + 1 + ((N - (j + 1)).toNat : Int) = N by omega,pRow_succ (by omega)] at h2
 have e : pOne i j = [⟨i,j⟩]:=by unfold pOne;rw [if_pos ij]
 rw [h2,e] at h1
 exact ⟨r2 ++ r1,by unfold pairsL;rw [h1];simp only [List.append_assoc,List.nil_append,List.cons_append]⟩
theorem pairs_at {N : Nat} {i j : Int} (i0 : 0 ≤ i) (ij : i < j) (jN : j < N) {n : Nat} (hn : n = (pUpTo N i ++ pRow i j).length) : gt (pairsL N) n = ⟨i,j⟩ ∧ n < (pairsL N).length:=by
 obtain ⟨r,hr⟩:=pairs_split i0 ij jN
 rw [hr]
 refine ⟨?_,by rw [List.length_append,← hn];simp⟩
 unfold gt
 rw [Int.toNat_natCast,List.getD_eq_getElem?_getD,List.getElem?_append_right (by omega),hn,Nat.sub_self]
 rfl
def SeenL (l : List Int) (S : List Bool) (L : List P2) : Prop:=S.length = (clsL l).length ∧ ∀ p,p ∈ L → gt S (ixI (clsL l) (diffOf l p)) = true
theorem SeenL.set {l : List Int} {S : List Bool} {L : List P2} (h : SeenL l S L) {q : Int} (q0 : 0 ≤ q) (q1 : q < S.length) (ln : Line l) (hL : ∀ p,p ∈ L → p ∈ pairsL l.length) : SeenL l (S.set q.toNat true) L:=by
 refine ⟨by rw [List.length_set];exact h.1,fun p hp => ?_⟩
 obtain ⟨x0,x1,_⟩:=ixI_mem (diff_mem ln (hL p hp))
 rw [gt_set S q0 x0 q1]
 split
 ·rfl
 ·exact h.2 p hp
variable {F : Prims} {call head arith cmp scmp bnot bsame conv neg imax imin ofNat slen place inR nz geZ rd wr push next mkOK nat zeros sadd eqAgg cut slc sslc strAt part app cpy putAt fresh lowered bump wrote addN lt ne fpAll fpApp brk yn rng mget mput mnew bytes clr : _} (hA : AP F ⟨call,head,arith,cmp,scmp,bnot,bsame,conv,neg,imax,imin,ofNat,slen,place,inR,nz,geZ,rd,wr,push,next,mkOK,nat,zeros,sadd,eqAgg,cut,slc,sslc,strAt,part,app,cpy,putAt,fresh,lowered,bump,wrote,addN,lt,ne,fpAll,fpApp,brk,yn,rng,mget,mput,mnew,bytes,clr⟩)
include hA
theorem classes_ok {h : AHeap} (hlow : h.low ≤ h.next) {a : Option Addr} {N c : Nat} {l : List Int} (hl : Is h a N l) (ln : Line l) {Q : Value → AHeap → Prop}
  (hQ : ∀ h' b k co,Is h' (some ⟨b,0,none⟩) k (clsL l) → 1 ≤ k → k ≤ 10 → Ext h h' → Q (.tuple #[.slice (some ⟨b,0,none⟩) k co,.int .i64 0]) h') : call 10 [.slice a N c] h Q:=by
 refine hA.bodyR Try.func10 r10_ok (hA.alike _ _ _ rfl) hlow (zc ?_)
 refine chk_ok hA hlow hl (fun e h1 k1 x1 => ⟨_,rfl,?_⟩)
 obtain rfl : e = 0:=k1.uniq (.inr (.inr (.inr ⟨⟨ln.n2,ln.n5⟩,ln.good,rfl⟩)))
 refine zc ?_
 refine br False (by rw [e_neq hA];rfl) (fun q => q.elim) (fun _ => ?_) <;> refine zc ?_
 refine cls_ok hA (x1.lowOK hlow) (hl.ext x1) ln (fun h2 b k co r2 k1 k10 hb x2 => ⟨_,_,_,rfl,?_⟩)
 refine zc ?_
 exact hQ h2 b k co r2 k1 k10 (x1.trans x2)
theorem Rows_ok {h : AHeap} (hlow : h.low ≤ h.next) {a : Option Addr} {N c : Nat} {l : List Int} (hl : Is h a N l) (ln : Line l) {Q : Value → AHeap → Prop}
  (hQ : ∀ h' ao k co hs,GrR iC 1 h' ao k hs (rowsL l) → k = (pairsL N).length → k ≤ 10 → Ext h h' → Q (.tuple #[.slice ao k co,.int .i64 0]) h') : call 12 [.slice a N c] h Q:=by
 refine hA.bodyR Try.func12 r12_ok (hA.alike _ _ _ rfl) hlow (zc ?_)
 refine chk_ok hA hlow hl (fun e h1 k1 x1 => ⟨_,rfl,?_⟩)
 obtain rfl : e = 0:=k1.uniq (.inr (.inr (.inr ⟨⟨ln.n2,ln.n5⟩,ln.good,rfl⟩)))
 refine zc ?_
 refine br False (by rw [e_neq hA];rfl) (fun q => q.elim) (fun _ => ?_) <;> refine zc ?_
 refine rows_ok hA (x1.lowOK hlow) (hl.ext x1) ln (fun h2 ao k co hs r2 hk k10 x2 => ⟨_,_,_,rfl,?_⟩)
 refine zc ?_
 exact hQ h2 ao k co hs r2 hk k10 (x1.trans x2)
set_option maxHeartbeats 1000000 in
theorem lcls_k {h0 : AHeap} (hlow : h0.low ≤ h0.next) {a : Option Addr} {N c : Nat} {l : List Int} (hl : Is h0 a N l) (ln : Line l) {ac : Option Addr} {C cc : Nat} (hc : Is h0 ac C (clsL l)) (hC : C ≤ 10) {ar : Option Addr} {R cr : Nat} {sb csb : Nat} {i j : Int} (i0 : 0 ≤ i) (ij : i < j) (jN : j < N) {L : List P2} (hL : ∀ p,p ∈ L → p ∈ pairsL N) {at_ : Int} {rw_ : Option Addr} {W cw : Nat} (hW : W = N + C) (hrw : Is h0 rw_ W (rowF l ⟨i,j⟩)) (hsb : h0.next ≤ sb) {Q : Exit → SS → Prop}
  (hok : ∀ h' S,Own h' sb 1 (S.flatMap bC) → sb < h'.next → SeenL l S (L ++ [⟨i,j⟩]) → Ext h0 h' → Q (.exit 4) ⟨[(0,.slice a N c),(3,.bool true),(4,.slice ac C cc),(6,.slice ar R cr),(8,.slice (some ⟨sb,0,none⟩) C csb),(9,.int .i64 at_),(10,.int .i64 i),(11,.int .i64 j)],0,[],h'⟩) :
  ∀ (m : Nat) (k : Int) (h : AHeap) (S : List Bool),(W - k).toNat ≤ m → 0 ≤ k → k ≤ W → Own h sb 1 (S.flatMap bC) → sb < h.next → SeenL l S L → (l.length + ixI (clsL l) (diffOf l ⟨i,j⟩) < k → gt S (ixI (clsL l) (diffOf l ⟨i,j⟩)) = true) → Ext h0 h →
   head 4 21 0 ⟨[(0,.slice a N c),(3,.bool true),(4,.slice ac C cc),(6,.slice ar R cr),(8,.slice (some ⟨sb,0,none⟩) C csb),(9,.int .i64 at_),(10,.int .i64 i),(11,.int .i64 j),(12,.slice rw_ W cw),(13,.int .i64 k)],0,[],h⟩ Q:=by
 have lN:=hl.len
 have lC:=hc.len
 have n5:=ln.n5
 have pm : (⟨i,j⟩ : P2) ∈ pairsL l.length:=mem_pairs.2 ⟨i0,ij,by simp only;omega⟩
 obtain ⟨x0,x1,x2⟩:=ixI_mem (diff_mem ln pm)
 have edf : diffOf l ⟨i,j⟩ = gt l j - gt l i:=rfl
 have cat:=fun q q0 q1 => cls_at_eq ln (q:=q) q0 q1 (diff_mem ln pm)
 have rat:=fun k k0 k1 => rowF_at l (p:=⟨i,j⟩) ln pm (k:=k) k0 k1
 simp only at rat
 have wl : wid l = W:=by unfold wid;omega
 rw [wl] at rat
 have hL' : ∀ p,p ∈ L → p ∈ pairsL l.length:=by rw [lN];exact hL
 obtain ⟨ix,hix⟩ : ∃ z,z = ixI (clsL l) (diffOf l ⟨i,j⟩):=⟨_,rfl⟩
 rw [← hix] at x0 x1 x2 cat rat ⊢
 have fin : ∀ h S,Own h sb 1 (S.flatMap bC) → sb < h.next → SeenL l S L → gt S ix = true → Ext h0 h → Q (.exit 4) ⟨[(0,.slice a N c),(3,.bool true),(4,.slice ac C cc),(6,.slice ar R cr),(8,.slice (some ⟨sb,0,none⟩) C csb),(9,.int .i64 at_),(10,.int .i64 i),(11,.int .i64 j)],0,[],h⟩:=fun h S o lt sl gs he =>
  hok h S o lt ⟨sl.1,fun p hp => by
   rcases List.mem_append.1 hp with q | q
   ·exact sl.2 p q
   ·simp only [List.mem_singleton] at q
    rw [q,← hix];exact gs⟩ he
 intro m
 induction m with
 | zero =>
  intro k h S hm k0 k1 o lt sl gs he
  refine hA.roundR Try.func4 r4_ok (zc ?_)
  refine br (k < W) (by rw [e_lss hA,e_ofNat hA]) (fun q => by omega) (fun _ => ?_) <;> refine zc ?_
  exact fin h S o lt sl (gs (by omega)) he
 | succ m ih =>
 intro k h S hm k0 k1 o lt sl gs he
 by_cases ck : k < W
 rotate_left
 ·refine hA.roundR Try.func4 r4_ok (zc ?_)
  refine br (k < W) (by rw [e_lss hA,e_ofNat hA]) (fun q => by omega) (fun _ => ?_) <;> refine zc ?_
  exact fin h S o lt sl (gs (by omega)) he
 have ra:=rat k k0 ck
 have e1 : arith .add .i64 k 1 = k + 1:=add64 hA (by omega) (by omega)
 have rdR : ∀ h',Ext h0 h' → ∃ b o,rw_ = some ⟨b,o,none⟩ ∧ rd h' b (place o k 1) 1 [.int .i64 (gt (rowF l ⟨i,j⟩) k)]:=fun h' e => by
  obtain ⟨b,o,y,e1,_,hy,r⟩:=is_at (hrw.ext e) (i:=k) k0 ck
  rw [hy];exact ⟨b,o,e1,rd_ok hA r⟩
 refine hA.roundR Try.func4 r4_ok (zc ?_)
 refine br (k < W) (by rw [e_lss hA,e_ofNat hA]) (fun _ => ?_) (fun q => by omega) <;> refine zc ?_
 refine br (k = i) (by rw [e_eql hA]) (fun ki => ?_) (fun ki => ?_) <;> refine zc ?_
 ·rw [if_neg (by omega),if_neg (by omega),if_pos ki] at ra
  obtain ⟨b,o',e2,r⟩:=rdR h he
  rw [ra] at r
  subst e2
  refine zq ?_
  refine br ((1 : Int) ≠ 1) (by rw [e_neq hA]) (fun q => absurd rfl q) (fun _ => ?_) <;> refine zc ?_
  rw [e1]
  exact ih (k + 1) h S (by omega) (by omega) (by omega) o lt sl (fun q => by omega) he
 refine br (k = j) (by rw [e_eql hA]) (fun kj => ?_) (fun kj => ?_) <;> refine zc ?_
 ·rw [if_neg (by omega),if_pos kj] at ra
  obtain ⟨b,o',e2,r⟩:=rdR h he
  rw [ra] at r
  subst e2
  refine zq ?_
  refine br ((-1 : Int) ≠ -1) (by rw [e_neq hA]) (fun q => absurd rfl q) (fun _ => ?_) <;> refine zc ?_
  rw [e1]
  exact ih (k + 1) h S (by omega) (by omega) (by omega) o lt sl (fun q => by omega) he
 rw [if_neg kj,if_neg ki] at ra
 obtain ⟨h9,hh9⟩ : ∃ z,z = bump h 24:=⟨_,rfl⟩
 have x9 : Ext h h9:=by rw [hh9];exact ext_bump hA _ _
 have e9:=he.trans x9
 have o9:=o.ext x9 lt
 have lt9 : sb < h9.next:=by have:=x9.next;omega
 rw [← hh9]
 refine br ((N : Int) ≤ k) (by rw [e_geq hA,e_ofNat hA]) (fun kN => ?_) (fun kN => ?_) <;> refine zc ?_
 rotate_left
 ·rw [if_neg (by omega)] at ra
  obtain ⟨b,o',e2,r⟩:=rdR h9 e9
  rw [ra] at r
  subst e2
  refine zq ?_
  refine br ((0 : Int) ≠ 0) (by rw [e_neq hA]) (fun q => absurd rfl q) (fun _ => ?_) <;> refine zc ?_
  rw [e1]
  exact ih (k + 1) h9 S (by omega) (by omega) (by omega) o9 lt9 sl (fun q => by omega) e9
 obtain ⟨q,hq⟩ : ∃ z : Int,z = k - N:=⟨_,rfl⟩
 have eN : ofNat N = (N : Int):=e_ofNat hA N
 have eq1 : arith .sub .i64 k (N : Int) = q:=by rw [hq];exact sub64 hA (by omega) (by omega)
 obtain ⟨cb,co,y,ec,_,hy,ry⟩:=is_at (hc.ext e9) (i:=q) (by omega) (by omega)
 subst ec
 obtain ⟨lb,lo,vj,el,_,hvj,rj⟩:=is_at (hl.ext e9) (i:=j) (by omega) (by omega)
 subst el
 obtain ⟨lb',lo',vi,el,_,hvi,ri⟩:=is_at (hl.ext e9) (i:=i) (by omega) (by omega)
 cases el
 have ry:=rd_ok hA ry
 have rj:=rd_ok hA rj
 have ri:=rd_ok hA ri
 have b1:=ln.rng (i:=i) i0 (by omega)
 have b2:=ln.rng (i:=j) (by omega) (by omega)
 obtain ⟨d,hd⟩ : ∃ z : Int,z = vj - vi:=⟨_,rfl⟩
 have eq2 : arith .sub .i64 vj vi = d:=by rw [hd];exact sub64 hA (by omega) (by omega)
 have edd : diffOf l ⟨i,j⟩ = d:=by rw [edf];omega
 have cq:=cat q (by omega) (by omega)
 rw [hy,edd] at cq
 (refine zq ?_;repeat ((first | rw [eN] | rw [eq1] | rw [eq2]);refine zq ?_))
 refine br (y = d) (by rw [e_eql hA]) (fun yd => ?_) (fun yd => ?_) <;> refine zc ?_
 ·have qx:=cq.1 yd
  rw [if_pos (by omega)] at ra
  have lS:=sl.1
  obtain ⟨h3,w3,o3,r3⟩:=Own.setRow o9 bC_len (i:=q.toNat) (by omega) true
  have w3 : wr h9 sb (place 0 q 1) [.bool true] h3:=wr_ok hA (by rw [Nat.zero_add];exact w3)
  have x3 : Ext h0 h3:=r3.ext e9 hsb
  (refine zq ?_;repeat ((first | rw [eN] | rw [eq1]);refine zq ?_))
  obtain ⟨b,o',e2,r⟩:=rdR h3 x3
  rw [ra] at r
  subst e2
  refine zq ?_
  refine br ((1 : Int) ≠ 1) (by rw [e_neq hA]) (fun q => absurd rfl q) (fun _ => ?_) <;> refine zc ?_
  rw [e1]
  refine ih (k + 1) h3 _ (by omega) (by omega) (by omega) o3 (by rw [r3.next];exact lt9) (sl.set (by omega) (by omega) ln hL') (fun _ => ?_) x3
  rw [gt_set S (by omega) x0 (by omega),if_pos qx.symm]
 ·have qx : q ≠ ix:=fun w => yd (cq.2 w)
  rw [if_neg (by omega)] at ra
  obtain ⟨b,o',e2,r⟩:=rdR h9 e9
  rw [ra] at r
  subst e2
  refine zq ?_
  refine br ((0 : Int) ≠ 0) (by rw [e_neq hA]) (fun q => absurd rfl q) (fun _ => ?_) <;> refine zc ?_
  rw [e1]
  exact ih (k + 1) h9 S (by omega) (by omega) (by omega) o9 lt9 sl (fun w => gs (by omega)) e9
set_option maxHeartbeats 1000000 in
theorem lcls_j {h0 : AHeap} (hlow : h0.low ≤ h0.next) {a : Option Addr} {N c : Nat} {l : List Int} (hl : Is h0 a N l) (ln : Line l) {ac : Option Addr} {C cc : Nat} (hc : Is h0 ac C (clsL l)) (hC : C ≤ 10) {ar : Option Addr} {R cr : Nat} {hs : List Hd} (hr : GrR iC 1 h0 ar R hs (rowsL l)) {sb csb : Nat} {i : Int} (i0 : 0 ≤ i) (iN : i < N) (hsb : h0.next ≤ sb) {Q : Exit → SS → Prop}
  (hok : ∀ h' S at2,at2 = (((pUpTo N (i + 1)).length : Nat) : Int) → Own h' sb 1 (S.flatMap bC) → sb < h'.next → SeenL l S (pUpTo N (i + 1)) → Ext h0 h' → Q (.exit 2) ⟨[(0,.slice a N c),(3,.bool true),(4,.slice ac C cc),(6,.slice ar R cr),(8,.slice (some ⟨sb,0,none⟩) C csb),(9,.int .i64 at2),(10,.int .i64 i)],0,[],h'⟩) :
  ∀ (m : Nat) (j : Int) (h : AHeap) (S : List Bool) (at_ : Int),(N - j).toNat ≤ m → i < j → j ≤ N → at_ = ((pUpTo N i ++ pRow i j).length : Nat) → Own h sb 1 (S.flatMap bC) → sb < h.next → SeenL l S (pUpTo N i ++ pRow i j) → Ext h0 h →
   head 4 14 0 ⟨[(0,.slice a N c),(3,.bool true),(4,.slice ac C cc),(6,.slice ar R cr),(8,.slice (some ⟨sb,0,none⟩) C csb),(9,.int .i64 at_),(10,.int .i64 i),(11,.int .i64 j)],0,[],h⟩ Q:=by
 have lN:=hl.len
 have lC:=hc.len
 have n5:=ln.n5
 have lR:=hr.len
 have lR2 : (rowsL l).length = (pairsL N).length:=by unfold rowsL;rw [List.length_map,lN]
 have endE : pUpTo N i ++ pRow i N = pUpTo N (i + 1):=(pUpTo_succ i0).symm
 intro m
 induction m with
 | zero =>
  intro j h S at_ hm j0 j1 hat o lt sl he
  refine hA.roundR Try.func4 r4_ok (zc ?_)
  refine br (j < N) (by rw [e_lss hA,e_ofNat hA]) (fun q => by omega) (fun _ => ?_) <;> refine zc ?_
  obtain rfl : j = N:=by omega
  rw [endE] at hat sl
  exact hok h S at_ hat o lt sl he
 | succ m ih =>
 intro j h S at_ hm j0 j1 hat o lt sl he
 by_cases cj : j < N
 rotate_left
 ·refine hA.roundR Try.func4 r4_ok (zc ?_)
  refine br (j < N) (by rw [e_lss hA,e_ofNat hA]) (fun q => by omega) (fun _ => ?_) <;> refine zc ?_
  obtain rfl : j = N:=by omega
  rw [endE] at hat sl
  exact hok h S at_ hat o lt sl he
 obtain ⟨pa,pb⟩:=pairs_at i0 j0 cj rfl
 rw [← hat] at pa
 have few:=pairs_few (n:=N) (by omega)
 obtain ⟨rb,ro,rfl,_⟩:=hr.some (by omega)
 have hd:=gr_head hA (hr.ext he) (y:=at_) (by omega) (by omega)
 have hrow:=hr.row at_ (by omega) (by omega)
 have gr : gt (rowsL l) at_ = rowF l ⟨i,j⟩:=by
  unfold rowsL;rw [gt_map (rowF l) _ (by omega) (by rw [lN];omega),lN,pa]
 rw [gr] at hrow
 have hw : (gt hs at_).n = wid l:=by rw [← hrow.len,rowF_len]
 rw [hw] at hrow hd
 generalize (gt hs at_).a = ra at *
 generalize (gt hs at_).c = rc at *
 obtain ⟨W,hW⟩ : ∃ z,z = wid l:=⟨_,rfl⟩
 rw [← hW] at hrow hd
 have hWN : W = N + C:=by unfold wid at hW;omega
 have e2 : arith .add .i64 (ofNat N) (ofNat C) = (W : Int):=by rw [e_ofNat hA,e_ofNat hA,hWN];rw [add64 hA (by omega) (by omega)];omega
 refine hA.roundR Try.func4 r4_ok (zc ?_)
 refine br (j < N) (by rw [e_lss hA,e_ofNat hA]) (fun _ => ?_) (fun q => by omega) <;> refine zc ?_
 refine zq ?_
 rw [add64 hA (a:=at_) (by omega) (by omega),e2]
 obtain ⟨at2,hat2⟩ : ∃ z,z = at_ + 1:=⟨_,rfl⟩
 rw [← hat2]
 refine br ((W : Int) ≠ W) (by rw [e_neq hA,e_ofNat hA]) (fun q => absurd rfl q) (fun _ => ?_) <;> refine zc ?_
 have ixp:=(ixI_mem (diff_mem ln (p:=⟨i,j⟩) (mem_pairs.2 ⟨i0,j0,by simp only;omega⟩))).1
 refine lcls_k hA hlow hl ln hc hC i0 j0 cj (L:=pUpTo N i ++ pRow i j) (fun p hp => ?_) hWN hrow hsb (fun h' S' o' lt' sl' he' => ?_) W 0 h S (by omega) (by omega) (by omega) o lt sl (fun q => by omega) he
 ·obtain ⟨r,hr⟩:=pairs_split i0 j0 cj
  rw [hr];exact List.mem_append_left _ hp
 refine zc ?_
 rw [add64 hA (by omega) (by omega)]
 refine ih (j + 1) h' S' at2 (by omega) (by omega) (by omega) ?_ o' lt' ?_ he'
 ·rw [pRow_succ (by omega),← List.append_assoc,List.length_append,hat2,hat]
  unfold pOne;rw [if_pos j0];simp
 ·rw [pRow_succ (by omega),← List.append_assoc]
  unfold pOne;rw [if_pos j0];exact sl'
theorem lcls_i {h0 : AHeap} (hlow : h0.low ≤ h0.next) {a : Option Addr} {N c : Nat} {l : List Int} (hl : Is h0 a N l) (ln : Line l) {ac : Option Addr} {C cc : Nat} (hc : Is h0 ac C (clsL l)) (hC : C ≤ 10) {ar : Option Addr} {R cr : Nat} {hs : List Hd} (hr : GrR iC 1 h0 ar R hs (rowsL l)) {sb csb : Nat} (hsb : h0.next ≤ sb) {Q : Exit → SS → Prop}
  (hok : ∀ h' S,Own h' sb 1 (S.flatMap bC) → sb < h'.next → SeenL l S (pairsL N) → Ext h0 h' → Q (.exit 0) ⟨[(3,.bool true),(4,.slice ac C cc),(8,.slice (some ⟨sb,0,none⟩) C csb)],0,[],h'⟩) :
  ∀ (m : Nat) (i : Int) (h : AHeap) (S : List Bool) (at_ : Int),(N - i).toNat ≤ m → 0 ≤ i → i ≤ N → at_ = ((pUpTo N i).length : Nat) → Own h sb 1 (S.flatMap bC) → sb < h.next → SeenL l S (pUpTo N i) → Ext h0 h →
   head 4 11 0 ⟨[(0,.slice a N c),(3,.bool true),(4,.slice ac C cc),(6,.slice ar R cr),(8,.slice (some ⟨sb,0,none⟩) C csb),(9,.int .i64 at_),(10,.int .i64 i)],0,[],h⟩ Q:=by
 have lN:=hl.len
 have n5:=ln.n5
 intro m
 induction m with
 | zero =>
  intro i h S at_ hm i0 i1 hat o lt sl he
  refine hA.roundR Try.func4 r4_ok (zc ?_)
  refine br (i < N) (by rw [e_lss hA,e_ofNat hA]) (fun q => by omega) (fun _ => ?_) <;> refine zc ?_
  obtain rfl : i = N:=by omega
  exact hok h S o lt sl he
 | succ m ih =>
 intro i h S at_ hm i0 i1 hat o lt sl he
 refine hA.roundR Try.func4 r4_ok (zc ?_)
 refine br (i < N) (by rw [e_lss hA,e_ofNat hA]) (fun ci => ?_) (fun _ => ?_) <;> refine zc ?_
 rotate_left
 ·obtain rfl : i = N:=by omega
  exact hok h S o lt sl he
 rw [add64 hA (by omega) (by omega)]
 have e0 : pUpTo N i ++ pRow i (i + 1) = pUpTo N i:=by rw [pRow_none,List.append_nil]
 refine lcls_j hA hlow hl ln hc hC hr i0 ci (csb:=csb) (sb:=sb) hsb (fun h' S' at2 hat2 o' lt' sl' he' => ?_) N (i + 1) h S at_ (by omega) (by omega) (by omega) (by rw [e0];exact hat) o lt (by rw [e0];exact sl) he
 refine zc ?_
 rw [add64 hA (by omega) (by omega)]
 exact ih (i + 1) h' S' at2 (by omega) (by omega) (by omega) hat2 o' lt' sl' he'
theorem lcls_end {h0 : AHeap} (hlow : h0.low ≤ h0.next) {l : List Int} (ln : Line l) {ac : Option Addr} {C cc : Nat} (hc : Is h0 ac C (clsL l)) (hC : C ≤ 10) {S : List Bool} {sb csb : Nat} (hS : Own h0 sb 1 (S.flatMap bC)) (hsb : sb < h0.next) (sl : SeenL l S (pairsL l.length)) {Q : Exit → SS → Prop}
  (hok : ∀ h' kn,Ext h0 h' → Q (.exit 7) ⟨[(3,.bool true)],kn,[],h'⟩) :
  ∀ (m : Nat) (k : Int) (h : AHeap),(C - k).toNat ≤ m → 0 ≤ k → k ≤ C → Ext h0 h →
   head 4 34 0 ⟨[(3,.bool true),(4,.slice ac C cc),(8,.slice (some ⟨sb,0,none⟩) C csb),(15,.int .i64 k)],0,[],h⟩ Q:=by
 have lC:=hc.len
 intro m
 induction m with
 | zero =>
  intro k h hm k0 k1 he
  refine hA.roundR Try.func4 r4_ok (zc ?_)
  refine br (k < C) (by rw [e_lss hA,e_ofNat hA]) (fun q => by omega) (fun _ => ?_) <;> refine zc ?_
  exact hok h _ he
 | succ m ih =>
 intro k h hm k0 k1 he
 by_cases ck : k < C
 rotate_left
 ·refine hA.roundR Try.func4 r4_ok (zc ?_)
  refine br (k < C) (by rw [e_lss hA,e_ofNat hA]) (fun q => by omega) (fun _ => ?_) <;> refine zc ?_
  exact hok h _ he
 obtain ⟨h9,hh9⟩ : ∃ z,z = bump h 21:=⟨_,rfl⟩
 have x9 : Ext h h9:=by rw [hh9];exact ext_bump hA _ _
 have e9:=he.trans x9
 have lS:=sl.1
 have rs:=Own.rows (hS.ext e9 hsb) bC_len (by omega) (by have:=e9.next;omega)
 obtain ⟨b',o',eb,_,w⟩:=rs.at (i:=k) k0 (by omega)
 cases eb
 have w:=w 0 1 (by omega) (by omega)
 have dk:=gt_mem (clsL l) (i:=k) k0 (by omega)
 have seen : gt S k = true:=by
  have:=(mem_diffs ln).2 dk
  unfold diffs at this
  obtain ⟨p,hp,e⟩:=List.mem_map.1 this
  have s2:=sl.2 p hp
  rw [e] at s2
  rwa [← (cls_at_eq ln k0 (by omega) dk).1 rfl] at s2
 rw [seen] at w
 have q1 : rd h9 sb (place 0 k 1) 1 [.bool true]:=rd_ok hA w
 have e1 : arith .add .i64 k 1 = k + 1:=add64 hA (by omega) (by omega)
 refine hA.roundR Try.func4 r4_ok (zc ?_)
 refine br (k < C) (by rw [e_lss hA,e_ofNat hA]) (fun _ => ?_) (fun q => by omega) <;> refine zc ?_
 rw [← hh9]
 refine zq ?_
 rw [show bnot true = false by rw [e_bnot hA];rfl]
 refine zc ?_
 refine br (0 < k) (by rw [e_gtr hA]) (fun kp => ?_) (fun kp => ?_) <;> refine zc ?_
 rotate_left
 ·rw [e1]
  exact ih (k + 1) h9 (by omega) (by omega) (by omega) e9
 obtain ⟨k',hk'⟩ : ∃ z,z = k - 1:=⟨_,rfl⟩
 have e2 : arith .sub .i64 k 1 = k':=by rw [hk'];exact sub64 hA (by omega) (by omega)
 obtain ⟨cb,co,y,ec,_,hy,ry⟩:=is_at (hc.ext e9) (i:=k) k0 ck
 subst ec
 obtain ⟨cb',co',y',ec,_,hy',ry'⟩:=is_at (hc.ext e9) (i:=k') (by omega) (by omega)
 cases ec
 have ry:=rd_ok hA ry
 have ry':=rd_ok hA ry'
 have pw:=List.pairwise_iff_getElem.1 (clsL_lt l)
 have g : ∀ z : Int,0 ≤ z → (hz : z < (clsL l).length) → gt (clsL l) z = (clsL l)[z.toNat]'(by omega):=fun z z0 z1 => by
  unfold gt;rw [List.getD_eq_getElem?_getD,List.getElem?_eq_getElem (by omega)];rfl
 have lt:=pw k'.toNat k.toNat (by omega) (by omega) (by omega)
 rw [← g k' (by omega) (by omega),← g k k0 (by omega),hy,hy'] at lt
 (refine zq ?_;repeat ((first | rw [e2]);refine zq ?_))
 refine br (y ≤ y') (by rw [e_leq hA]) (fun q => by omega) (fun _ => ?_) <;> refine zc ?_
 rw [e1]
 exact ih (k + 1) h9 (by omega) (by omega) (by omega) e9
set_option maxHeartbeats 1000000 in
theorem lclasses_ok (hF : ∀ h,F 23 [] h = some (.bool true,h)) {h : AHeap} (hlow : h.low ≤ h.next) {a : Option Addr} {N c : Nat} {l : List Int} (hl : Is h a N l) {Q : Value → AHeap → Prop}
  (hQ : ∀ h',Ext h h' → Q (.bool true) h') : call 4 [.slice a N c] h Q:=by
 have lN:=hl.len
 refine hA.bodyR Try.func4 r4_ok (hA.alike _ _ _ rfl) hlow (zc ?_)
 refine hA.prim (hF h) ⟨_,rfl,?_⟩
 refine zc ?_
 refine rchk_ok hA hlow hl (fun e h1 k1 x1 => ⟨_,rfl,?_⟩)
 refine zc ?_
 refine br (e ≠ 0) (by rw [e_neq hA]) (fun _ => ?_) (fun e0 => ?_) <;> refine zc ?_
 ·exact hQ h1 x1
 have ln:=k1.zero (by omega)
 have n2:=ln.n2
 have n5:=ln.n5
 rw [show bnot true = false by rw [e_bnot hA];rfl]
 refine zc ?_
 refine classes_ok hA (x1.lowOK hlow) (hl.ext x1) ln (fun h2 cb C co rc c1 c10 x2 => ⟨_,_,_,_,rfl,?_⟩)
 have y2:=x1.trans x2
 refine zc ?_
 refine Rows_ok hA (y2.lowOK hlow) (hl.ext y2) ln (fun h3 ar R cr hs rr hR hR10 x3 => ⟨_,_,_,_,rfl,?_⟩)
 have y3:=y2.trans x3
 refine zc ?_
 refine br False (by rw [e_neq hA];rfl) (fun q => q.elim) (fun _ => ?_) <;> refine zc ?_
 refine br False (by rw [e_neq hA];rfl) (fun q => q.elim) (fun _ => ?_) <;> refine zc ?_
 have hV : ∃ V : Int,arith .mul .i64 (ofNat N) (arith .sub .i64 (ofNat N) 1) = V ∧ arith .quo .i64 V 2 = (R : Int):=by
  have hN : N = 2 ∨ N = 3 ∨ N = 4 ∨ N = 5:=by omega
  rw [e_ofNat hA]
  rcases hN with rfl | rfl | rfl | rfl
  ·exact ⟨2,by rw [sub64 hA (by omega) (by omega),mul64 hA (by decide) (by decide)];rfl,by rw [quo64 hA (by omega) (by omega) (by omega),hR];decide⟩
  ·exact ⟨6,by rw [sub64 hA (by omega) (by omega),mul64 hA (by decide) (by decide)];rfl,by rw [quo64 hA (by omega) (by omega) (by omega),hR];decide⟩
  ·exact ⟨12,by rw [sub64 hA (by omega) (by omega),mul64 hA (by decide) (by decide)];rfl,by rw [quo64 hA (by omega) (by omega) (by omega),hR];decide⟩
  ·exact ⟨20,by rw [sub64 hA (by omega) (by omega),mul64 hA (by decide) (by decide)];rfl,by rw [quo64 hA (by omega) (by omega) (by omega),hR];decide⟩
 obtain ⟨V,hV1,hV2⟩:=hV
 rw [hV1]
 refine ⟨nz_ok hA (by omega),?_⟩
 refine zc ?_
 rw [hV2]
 refine br ((R : Int) ≠ R) (by rw [e_neq hA,e_ofNat hA]) (fun q => absurd rfl q) (fun _ => ?_) <;> refine zc ?_
 rw [e_ofNat hA]
 refine ⟨mk_ok hA (by omega) (Int.le_refl _) (by omega),?_⟩
 refine zc ?_
 rw [e_zeros hA,e_next hA,e_push hA,e_nat hA,show (Int.ofNat C).toNat = C from rfl,copies_bool]
 have oP:=Own.push h3 1 ((List.replicate C false).flatMap bC)
 have eP:=Ext.push h3 1 ((List.replicate C false).flatMap bC)
 have nP : (h3.push 1 ((List.replicate C false).flatMap bC)).next = h3.next + 1:=rfl
 generalize h3.push 1 ((List.replicate C false).flatMap bC) = hP at *
 obtain ⟨sb,hsb⟩ : ∃ z,z = h3.next:=⟨_,rfl⟩
 rw [← hsb] at oP nP ⊢
 have lC:=rc.len
 refine lcls_i hA (y3.lowOK hlow) (hl.ext y3) ln (rc.ext x3) c10 rr (sb:=sb) (csb:=C) (by omega) (fun h4 S o4 lt4 s4 x4 => ?_) N 0 hP (List.replicate C false) 0 (by omega) (by omega) (by omega) rfl oP (by omega) ⟨by rw [List.length_replicate];exact lC.symm,fun p hp => by simp [pUpTo,upN] at hp⟩ eP
 have y4:=y3.trans x4
 refine zc ?_
 rw [← lN] at s4
 refine lcls_end hA (y4.lowOK hlow) ln (rc.ext (x3.trans x4)) c10 o4 lt4 s4 (fun h5 kn x5 => ?_) C 0 h4 (by omega) (by omega) (by omega) (.refl h4)
 refine zc ?_
 exact hQ h5 (y4.trans x5)
end Go.Proofs.Ytogliemiljhliaa
