import Derived.Test.YtkbgkjlgnmlghaaGreatCaC
set_option linter.unusedSimpArgs false
set_option linter.unusedVariables false
namespace Go.Proofs.YtkbgkjlgnmlghaaGreat
open Go.Sim
set_option linter.unusedVariables false
set_option maxRecDepth 100000
def wR (n m k c : Int) : Rat:=if c = m / k then rq (k - m % k) k else if c = (m / k + 1) % n then rq (m % k) k else 0
def partR (n : Int) (s : Sk) (x y : Int) : List Pk:=if 0 < wR n s.un s.ud x * wR n s.vn s.vd y then [mkP x y (wR n s.un s.ud x * wR n s.vn s.vd y)] else []
def upTo (n : Int) : List Int:=(List.range n.toNat).map Int.ofNat
theorem upTo_succ {n : Int} (h : 0 ≤ n) : upTo (n + 1) = upTo n ++ [n]:=by
 unfold upTo
 rw [show (n + 1).toNat = n.toNat + 1 by omega,List.range_succ,List.map_append]
 simp only [List.map_cons,List.map_nil]
 rw [show Int.ofNat n.toNat = n from Int.toNat_of_nonneg h]
def rowR (n : Int) (s : Sk) (y m : Int) : List Pk:=(upTo m).flatMap fun x => partR n s x y
def partsR (n : Int) (s : Sk) (m : Int) : List Pk:=(upTo m).flatMap fun y => rowR n s y n
theorem partR_len (n : Int) (s : Sk) (x y : Int) : (partR n s x y).length ≤ 1:=by unfold partR;split <;> simp
theorem rowR_succ {n : Int} {s : Sk} {y m : Int} (h : 0 ≤ m) : rowR n s y (m + 1) = rowR n s y m ++ partR n s m y:=by
 unfold rowR
 rw [upTo_succ h,List.flatMap_append]
 simp
theorem partsR_succ {n : Int} {s : Sk} {m : Int} (h : 0 ≤ m) : partsR n s (m + 1) = partsR n s m ++ rowR n s m n:=by
 unfold partsR
 rw [upTo_succ h,List.flatMap_append]
 simp
theorem rowR_len (n : Int) (s : Sk) (y : Int) (m : Nat) : (rowR n s y m).length ≤ m:=by
 induction m with
 | zero => simp [rowR,upTo]
 | succ m ih =>
  have:=partR_len n s m y
  rw [show ((m + 1 : Nat) : Int) = (m : Int) + 1 by omega,rowR_succ (by omega),List.length_append]
  omega
theorem partsR_len {n : Int} (n0 : 0 ≤ n) (n1 : n ≤ 8) (s : Sk) (m : Nat) : (partsR n s m).length ≤ 8 * m:=by
 induction m with
 | zero => simp [partsR,upTo]
 | succ m ih =>
  have:=rowR_len n s m n.toNat
  rw [show (n.toNat : Int) = n by omega] at this
  rw [show ((m + 1 : Nat) : Int) = (m : Int) + 1 by omega,partsR_succ (by omega),List.length_append]
  omega
variable {F : Prims} {call head arith cmp scmp bnot bsame conv neg imax imin ofNat slen place inR nz geZ rd wr push next mkOK nat zeros sadd eqAgg cut slc sslc strAt part app cpy putAt fresh lowered bump wrote addN lt ne fpAll fpApp brk yn rng mget mput mnew bytes clr : _} (hA : AP F ⟨call,head,arith,cmp,scmp,bnot,bsame,conv,neg,imax,imin,ofNat,slen,place,inR,nz,geZ,rd,wr,push,next,mkOK,nat,zeros,sadd,eqAgg,cut,slc,sslc,strAt,part,app,cpy,putAt,fresh,lowered,bump,wrote,addN,lt,ne,fpAll,fpApp,brk,yn,rng,mget,mput,mnew,bytes,clr⟩)
include hA
theorem weight_ok {h : AHeap} (hlow : h.low ≤ h.next) {n m k c : Int} (hc : Coord n m k) (c0 : 0 ≤ c) (c1 : c < n) {Q : Value → AHeap → Prop}
  (hQ : ∀ w1 w2 h',isF w1 w2 (wR n m k c) → 0 ≤ w1 → w1 ≤ 6 → w2 ≤ 6 → Ext h h' → Q (.agg #[.int .i64 w1,.int .i64 w2]) h') : call 40 [.int .i64 n,.agg #[.int .i64 m,.int .i64 k],.int .i64 c] h Q:=by
 have X:=hc.x
 have n1:=hc.n1
 have n0:=hc.n0
 have k1:=hc.k1
 have m1:=hc.m1
 have k6:=hc.c.2.2.1
 have m0:=hc.c.2.1
 have rm:=hc.rem
 have f1:=hc.f1
 have f0:=hc.f0
 have up:=hc.up
 have e1 : arith .quo .i64 m k = m / k:=quo64 hA m0 (by omega) (by omega)
 have key:=Int.mul_ediv_add_emod m k
 rw [Int.mul_comm] at key
 obtain ⟨x,hx⟩ : ∃ z,z = m / k:=⟨_,rfl⟩
 obtain ⟨r,hr⟩ : ∃ z,z = m % k:=⟨_,rfl⟩
 have hQ' : ∀ w1 w2 h',isF w1 w2 (if c = x then rq (k - r) k else if c = (x + 1) % n then rq r k else 0) → 0 ≤ w1 → w1 ≤ 6 → w2 ≤ 6 → Ext h h' → Q (.agg #[.int .i64 w1,.int .i64 w2]) h':=by
  rw [hx,hr];exact hQ
 clear hQ
 rw [← hr] at rm f1 f0 up key
 rw [← hx] at X e1 key
 have xk0 : 0 ≤ x * k:=Int.mul_nonneg X.1 (by omega)
 have e2 : arith .mul .i64 x k = x * k:=mul64 hA (by omega) (by omega)
 have e3 : arith .sub .i64 m (x * k) = r:=by rw [sub64 hA (by omega) (by omega)];omega
 generalize x * k = xk at *
 refine hA.bodyR Tryz.func40 r40_ok (hA.alike _ _ _ rfl) hlow (zc ?_)
 (refine zq ?_;repeat ((first | rw [e1] | rw [e2] | rw [e3]);refine zq ?_))
 refine br (c = x) (by rw [e_eql hA]) (fun q => ?_) (fun q => ?_) <;> refine zc ?_
 ·rw [if_pos q] at hQ'
  obtain ⟨h9,hh9⟩ : ∃ z,z = bump h 9:=⟨_,rfl⟩
  have e9 : Ext h h9:=by rw [hh9];exact ext_bump hA _ _
  have l9:=e9.lowOK hlow
  rw [← hh9]
  refine of_ok' hA (low_fresh hA h9) ⟨_,_,rfl,?_⟩
  refine zc ?_
  rw [low_same hA l9]
  have g1:=isF_int (n:=1) (by omega) (by omega)
  refine rsub_ok hA (low_fresh hA h9) g1.i64n g1.i64d f1.i64n f1.i64d (fun a b e k2 hz ez => ⟨_,_,_,rfl,?_⟩)
  obtain ⟨kk,rfl⟩:=opIs_of g1 f1 (by rw [up];exact f0.2.2) k2
  have kk : isF a b (rq (k - r) k):=by rw [← up];exact kk
  obtain ⟨hX,hhX⟩ : ∃ z,z = lowered h9 hz:=⟨_,rfl⟩
  have eX : Ext h9 hX:=by rw [hhX];exact ext_low hA l9 (.refl h9) ez
  refine zc ?_
  rw [← hhX]
  refine zq ?_
  have:=f0.1;have:=f0.2.1;have:=kk.1;have:=kk.2.1
  exact hQ' a b hX kk (by omega) (by omega) (by omega) (e9.trans eX)
 rw [if_neg q] at hQ'
 have e4 : arith .add .i64 x 1 = x + 1:=add64 hA (by omega) (by omega)
 have e5 : arith .rem .i64 (x + 1) n = (x + 1) % n:=rem64 hA (by omega)
 (refine zq ?_;repeat ((first | rw [e4] | rw [e5]);refine zq ?_))
 refine br (c = (x + 1) % n) (by rw [e_eql hA]) (fun q2 => ?_) (fun q2 => ?_) <;> refine zc ?_
 ·rw [if_pos q2] at hQ'
  refine rmake_ok hA hlow f1.i64n f1.i64d (fun a b e k2 h2 x2 => ⟨_,_,_,rfl,?_⟩)
  refine zc ?_
  rcases k2 with ⟨w,_⟩ | ⟨_,k2⟩
  ·omega
  have k2 : outF (rq r k) a b e:=k2
  rcases k2 with ⟨w,w1,w2,w3⟩ | ⟨w,_⟩
  ·have:=f1.1;have:=f1.2.1
   exact hQ' a b h2 ⟨w1,w2,w⟩ (by omega) (by omega) (by omega) x2
  ·exact absurd f1.2.2 w
 rw [if_neg q2] at hQ'
 refine of_ok' hA hlow ⟨_,_,rfl,?_⟩
 refine zc ?_
 exact hQ' 0 1 h (isF_int (n:=0) (by omega) (by omega)) (by omega) (by omega) (by omega) (.refl h)
theorem rparts_inner {h0 : AHeap} (hlow : h0.low ≤ h0.next) {n y : Int} {s : Sk} (cu : Coord n s.un s.ud) (cv : Coord n s.vn s.vd) (y0 : 0 ≤ y) (y1 : y < n) {L : List Pk} (hL : L.length ≤ 100) {Q : Exit → SS → Prop}
  (hQ : ∀ h' a' c' N',Apd h' 4 a' N' c' ((L ++ rowR n s y n).flatMap Pk.cells) → From h0.next a' → Ext h0 h' → Q (.exit 2) ⟨[(0,.int .i64 n),(3,.pointer (some ⟨0,0,some 0⟩)),(5,.slice a' N' c'),(6,.int .i64 y)],1,[(0,s.cells)],h'⟩) :
  ∀ (m : Nat) (x : Int) (h : AHeap) (a : Option Addr) (N c : Nat),(n - x).toNat ≤ m → 0 ≤ x → x ≤ n → Apd h 4 a N c ((L ++ rowR n s y x).flatMap Pk.cells) → From h0.next a → Ext h0 h →
   head 20 6 1 ⟨[(0,.int .i64 n),(3,.pointer (some ⟨0,0,some 0⟩)),(5,.slice a N c),(6,.int .i64 y),(7,.int .i64 x)],1,[(0,s.cells)],h⟩ Q:=by
 have n1:=cu.n1
 have n0:=cu.n0
 intro m
 induction m with
 | zero =>
  intro x h a N c hm x0 x1 ha hf he
  obtain rfl : x = n:=by omega
  refine hA.roundR Tryz.func20 r20_ok (zc ?_)
  refine br (x < x) (by rw [e_lss hA]) (fun q => by omega) (fun _ => ?_) <;> refine zc ?_
  exact hQ h a c N ha hf he
 | succ m ih =>
 intro x h a N c hm x0 x1 ha hf he
 by_cases cx : x < n
 rotate_left
 ·obtain rfl : x = n:=by omega
  refine hA.roundR Tryz.func20 r20_ok (zc ?_)
  refine br (x < x) (by rw [e_lss hA]) (fun q => by omega) (fun _ => ?_) <;> refine zc ?_
  exact hQ h a c N ha hf he
 have lenN:=ha.cells.length
 rw [flatE_len pk_len,List.length_append] at lenN
 have lr:=rowR_len n s y x.toNat
 rw [show (x.toNat : Int) = x by omega] at lr
 obtain ⟨h9,hh9⟩ : ∃ z,z = bump h 17:=⟨_,rfl⟩
 have x9 : Ext h h9:=by rw [hh9];exact ext_bump hA _ _
 have e9:=he.trans x9
 have l9:=e9.lowOK hlow
 obtain ⟨un,ud,vn,vd⟩:=s
 refine hA.roundR Tryz.func20 r20_ok (zc ?_)
 refine br (x < n) (by rw [e_lss hA]) (fun _ => ?_) (fun q => absurd cx q) <;> refine zc ?_
 rw [← hh9]
 refine zq ?_
 refine weight_ok hA (low_fresh hA h9) cu x0 cx (fun p1 p2 hz hp pa pb pc ez => ⟨_,_,rfl,?_⟩)
 obtain ⟨hX,hhX⟩ : ∃ z,z = lowered h9 hz:=⟨_,rfl⟩
 have eX : Ext h9 hX:=by rw [hhX];exact ext_low hA l9 (.refl h9) ez
 have yX:=e9.trans eX
 have lX:=yX.lowOK hlow
 refine zc ?_
 rw [← hhX]
 refine weight_ok hA (low_fresh hA hX) cv y0 y1 (fun q1 q2 hz' hq qa qb qc ez' => ⟨_,_,rfl,?_⟩)
 obtain ⟨hY,hhY⟩ : ∃ z,z = lowered hX hz':=⟨_,rfl⟩
 have eY : Ext hX hY:=by rw [hhY];exact ext_low hA lX (.refl hX) ez'
 have yY:=yX.trans eY
 have lY:=yY.lowOK hlow
 refine zc ?_
 rw [← hhY]
 have hp : isF p1 p2 (wR n un ud x):=hp
 have hq : isF q1 q2 (wR n vn vd y):=hq
 have hw : fits (wR n un ud x * wR n vn vd y):=by
  have b1 : bnd (wR n un ud x) 6 6:=⟨by have:=hp.1;omega,by have:=hp.2.1;omega⟩
  have b2 : bnd (wR n vn vd y) 6 6:=⟨by have:=hq.1;omega,by have:=hq.2.1;omega⟩
  exact (b1.mul b2).fits (by omega) (by omega)
 refine rmul_ok hA (low_fresh hA hY) hp.i64n hp.i64d hq.i64n hq.i64d (fun w1 w2 e k2 hz'' ez'' => ⟨_,_,_,rfl,?_⟩)
 obtain ⟨kk,rfl⟩:=opIs_of hp hq hw k2
 obtain ⟨hZ,hhZ⟩ : ∃ z,z = lowered hY hz'':=⟨_,rfl⟩
 have eZ : Ext hY hZ:=by rw [hhZ];exact ext_low hA lY (.refl hY) ez''
 have yZ:=yY.trans eZ
 refine zc ?_
 rw [← hhZ]
 refine zq ?_
 have aZ:=ha.ext (((x9.trans eX).trans eY).trans eZ)
 have pos : 0 < w1 ↔ 0 < wR n un ud x * wR n vn vd y:=by rw [kk.1];exact num_pos _
 have suc : rowR n ⟨un,ud,vn,vd⟩ y (x + 1) = rowR n ⟨un,ud,vn,vd⟩ y x ++ partR n ⟨un,ud,vn,vd⟩ x y:=rowR_succ x0
 refine br (0 < w1) (by rw [e_gtr hA]) (fun c1 => ?_) (fun c1 => ?_) <;> refine zc ?_
 rotate_left
 ·rw [add64 hA (by omega) (by omega)]
  refine ih (x + 1) hZ a N c (by omega) (by omega) (by omega) ?_ hf yZ
  rw [suc]
  unfold partR
  rw [if_neg (fun w => c1 (pos.2 w)),List.append_nil]
  exact aZ
 refine zq ?_
 refine appR_ok hA TP pk_len (by omega) pk_ok aZ (v:=⟨x,y,w1,w2⟩) (by omega) (fun a' c' h' hp' hx' => ?_)
 obtain ⟨x',f'⟩:=hx' h0 yZ hf
 refine zc ?_
 rw [add64 hA (by omega) (by omega)]
 refine ih (x + 1) h' a' (N + 1) c' (by omega) (by omega) (by omega) ?_ f' x'
 rw [suc]
 unfold partR
 rw [if_pos (pos.1 c1)]
 unfold mkP
 show Apd h' 4 a' (N + 1) c' ((L ++ (rowR n ⟨un,ud,vn,vd⟩ y x ++ [(⟨x,y,(wR n un ud x * wR n vn vd y).num,(wR n un ud x * wR n vn vd y).den⟩ : Pk)])).flatMap Pk.cells)
 rw [← kk.1,← kk.2.1,← List.append_assoc]
 exact hp'
theorem rparts_outer {h0 : AHeap} (hlow : h0.low ≤ h0.next) {n : Int} {s : Sk} (cu : Coord n s.un s.ud) (cv : Coord n s.vn s.vd) {Q : Exit → SS → Prop}
  (hQ : ∀ h' a' c' N' e,Apd h' 4 a' N' c' ((partsR n s n).flatMap Pk.cells) → From h0.next a' → Ext h0 h' → Q (.exit 0) ⟨(5,.slice a' N' c') :: e,1,[(0,s.cells)],h'⟩) :
  ∀ (m : Nat) (y : Int) (h : AHeap) (a : Option Addr) (N c : Nat),(n - y).toNat ≤ m → 0 ≤ y → y ≤ n → Apd h 4 a N c ((partsR n s y).flatMap Pk.cells) → From h0.next a → Ext h0 h →
   head 20 3 1 ⟨[(0,.int .i64 n),(3,.pointer (some ⟨0,0,some 0⟩)),(5,.slice a N c),(6,.int .i64 y)],1,[(0,s.cells)],h⟩ Q:=by
 have n1:=cu.n1
 have n0:=cu.n0
 intro m
 induction m with
 | zero =>
  intro y h a N c hm y0 y1 ha hf he
  obtain rfl : y = n:=by omega
  refine hA.roundR Tryz.func20 r20_ok (zc ?_)
  refine br (y < y) (by rw [e_lss hA]) (fun q => by omega) (fun _ => ?_) <;> refine zc ?_
  exact hQ h a c N _ ha hf he
 | succ m ih =>
 intro y h a N c hm y0 y1 ha hf he
 by_cases cy : y < n
 rotate_left
 ·obtain rfl : y = n:=by omega
  refine hA.roundR Tryz.func20 r20_ok (zc ?_)
  refine br (y < y) (by rw [e_lss hA]) (fun q => by omega) (fun _ => ?_) <;> refine zc ?_
  exact hQ h a c N _ ha hf he
 have lp:=partsR_len (n:=n) (by omega) n1 s y.toNat
 rw [show (y.toNat : Int) = y by omega] at lp
 refine hA.roundR Tryz.func20 r20_ok (zc ?_)
 refine br (y < n) (by rw [e_lss hA]) (fun _ => ?_) (fun q => absurd cy q) <;> refine zc ?_
 refine rparts_inner hA hlow cu cv y0 cy (L:=partsR n s y) (by omega) (fun h' a' c' N' ha' hf' he' => ?_) n.toNat 0 h a N c (by omega) (by omega) (by omega) (by simpa [rowR,upTo] using ha) hf he
 refine zc ?_
 rw [add64 hA (by omega) (by omega)]
 refine ih (y + 1) h' a' N' c' (by omega) (by omega) (by omega) ?_ hf' he'
 rw [partsR_succ y0]
 exact ha'
theorem rparts_ok {h : AHeap} (hlow : h.low ≤ h.next) {n : Int} {s : Sk} (cu : Coord n s.un s.ud) (cv : Coord n s.vn s.vd) {Q : Value → AHeap → Prop}
  (hQ : ∀ a N c h',Rows Pk.cells 4 h' a N (partsR n s n) → From h.next a → Ext h h' → Q (.slice a N c) h') : call 20 [.int .i64 n,.agg #[.int .i64 s.un,.int .i64 s.ud,.int .i64 s.vn,.int .i64 s.vd]] h Q:=by
 refine hA.bodyR Tryz.func20 r20_ok (hA.alike _ _ _ rfl) hlow (zc ?_)
 refine rparts_outer hA hlow cu cv (fun h' a' c' N' e ha' hf' he' => ?_) n.toNat 0 h none 0 0 (by omega) (by omega) (by have:=cu.n0;omega) (by simpa [partsR,upTo] using Apd.nil h 4) (.none _) (.refl h)
 refine zc ?_
 exact hQ a' N' c' h' ⟨ha'.cells,pk_len,by omega⟩ hf' he'
end Go.Proofs.YtkbgkjlgnmlghaaGreat
