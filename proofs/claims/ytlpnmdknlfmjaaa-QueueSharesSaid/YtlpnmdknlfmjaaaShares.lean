/-
  fringelaw42.QueueShares in the abstract machine: true.
-/
import Derived.Test.YtlpnmdknlfmjaaaSharesLaw
import Derived.Test.YtlpnmdknlfmjaaaLevel
namespace Go.Proofs.Ytlpnmdknlfmjaaa
open Go.Sim
set_option linter.unusedVariables false
set_option maxRecDepth 100000

variable {call : FuncId → List Value → AHeap → (Value → AHeap → Prop) → Prop}
  {head : FuncId → Nat → Nat → SS → (Exit → SS → Prop) → Prop}
  {arith : BinOp → IntKind → Int → Int → Int}
  {cmp : BinOp → Int → Int → Bool}
  {scmp : BinOp → ByteArray → ByteArray → Bool}
  {bnot : Bool → Bool}
  {bsame : Bool → Bool → Bool}
  {conv : IntKind → Int → Int}
  {neg : IntKind → Int → Int}
  {imax : Int → Int → Int}
  {imin : Int → Int → Int}
  {ofNat : Nat → Int}
  {slen : ByteArray → Int}
  {place : Nat → Int → Nat → Nat}
  {inR : Int → Nat → Prop}
  {nz : Int → Prop}
  {geZ : Int → Prop}
  {rd : AHeap → Nat → Nat → Nat → List Value → Prop}
  {wr : AHeap → Nat → Nat → List Value → AHeap → Prop}
  {push : AHeap → Nat → List Value → AHeap}
  {next : AHeap → Nat}
  {mkOK : Int → Int → Prop}
  {nat : Int → Nat}
  {zeros : List Value → Int → List Value}
  {sadd : ByteArray → ByteArray → (ByteArray → Prop) → Prop}
  {eqAgg : TypeId → Array Value → Array Value → (Bool → Prop) → Prop}
  {cut : Nat → Int → Prop}
  {slc : TypeId → Value → Option Value → Option Value → Option Value → (Option Addr → Nat → Nat → Prop) → Prop}
  {sslc : TypeId → ByteArray → Option Value → Option Value → (ByteArray → Prop) → Prop}
  {strAt : ByteArray → Int → (Int → Prop) → Prop}
  {part : TypeId → Array Value → Nat → Value → Prop}
  {app : List TypeId → List Value → AHeap → (Option Addr → Nat → Nat → AHeap → Prop) → Prop}
  {cpy : List TypeId → List Value → AHeap → (Int → AHeap → Prop) → Prop}
  {putAt : AHeap → Nat → Nat → List Value → AHeap}
  {fresh : AHeap → AHeap}
  {lowered : AHeap → AHeap → AHeap}
  {bump : AHeap → Nat → AHeap}
  {wrote : AHeap → AHeap → Bool}
  {addN : Nat → Nat → Nat}
  {lt : Nat → Nat → Prop}
  {ne : Nat → Nat → Prop}
  {fpAll : Bool → Bool → Bool → Nat → Nat → Prop}
  {brk : (Unit → Prop) → Prop}
  (hA : AOK progU hint prims ⟨call, head, arith, cmp, scmp, bnot, bsame, conv, neg, imax, imin, ofNat, slen, place, inR, nz, geZ, rd, wr, push, next, mkOK, nat, zeros, sadd, eqAgg, cut, slc, sslc, strAt, part, app, cpy, putAt, fresh, lowered, bump, wrote, addN, lt, ne, fpAll, brk⟩)
include hA


theorem count_loop {h : AHeap} {aL : Option Addr} {m cL : Nat} (hm : m ≤ 1000) {L : List Int} (hL : Ints h .i64 aL m L) {i k : Int} {K : List (Nat × List Value)} {Q : Exit → SS → Prop}
    (h0 : ∀ A B, A = cnt i L → B = cnt k L → Q (.exit 0) ⟨[(1, .int .i64 i), (2, .int .i64 k), (4, .pointer (some ⟨0, 0, some 0⟩)), (9, .bool true), (10, .pointer (some ⟨1, 0, some 0⟩)), (13, .int .i64 A), (14, .int .i64 B)], 2, K, h⟩) :
    ∀ (j : Int), 0 ≤ j → j ≤ m → ∀ A B, A = cnt i (L.take j.toNat) → B = cnt k (L.take j.toNat) →
      head 5 13 2 ⟨[(1, .int .i64 i), (2, .int .i64 k), (4, .pointer (some ⟨0, 0, some 0⟩)), (9, .bool true), (10, .pointer (some ⟨1, 0, some 0⟩)), (11, .slice aL m cL), (13, .int .i64 A), (14, .int .i64 B), (15, .int .i64 j)], 2, K, h⟩ Q := by
  have hl := hL.len
  refine countUp (fun j hj0 hjn ih A B hAe hB => ?_)
  have l1 := cnt_le i (L.take j.toNat)
  have l2 := cnt_le k (L.take j.toNat)
  rw [List.length_take] at l1 l2
  refine hA.roundR Try.func5 r5_ok ?_; (try (conv => cbv)); repeat (refine brk_ok hA ?_; (try (conv => cbv)))
  refine br (j < m) (by rw [e_lss hA, e_ofNat hA]) (fun c1 => ?_) (fun c1 => ?_) <;> (try (conv => cbv)) <;> repeat (refine brk_ok hA ?_; (try (conv => cbv)))
  · obtain ⟨bL, oL, x, rfl, hbL, hx, hr⟩ := hL.atI hj0 c1
    have ti := cnt_take i L hj0 (by omega)
    have tk := cnt_take k L hj0 (by omega)
    rw [← hx] at ti tk
    refine ⟨bL, oL, rfl, in_ok hA hj0 c1, ?_⟩
    ((try (conv => cbv)); repeat (refine brk_ok hA ?_; (try (conv => cbv))))
    refine ⟨x, rd_ok hA hr, ?_⟩
    ((try (conv => cbv)); repeat (refine brk_ok hA ?_; (try (conv => cbv))))
    refine br (x = i) (e_eql hA _ _) (fun d1 => ?_) (fun d1 => ?_) <;> (try (conv => cbv)) <;> repeat (refine brk_ok hA ?_; (try (conv => cbv)))
    · rw [add64 hA (a := A) (b := 1) (by omega) (by omega)]
      have hAA : A + 1 = cnt i (L.take (j + 1).toNat) := by rw [ti, if_pos d1, hAe]
      refine ⟨bL, oL, rfl, in_ok hA hj0 c1, ?_⟩
      ((try (conv => cbv)); repeat (refine brk_ok hA ?_; (try (conv => cbv))))
      refine ⟨x, rd_ok hA hr, ?_⟩
      ((try (conv => cbv)); repeat (refine brk_ok hA ?_; (try (conv => cbv))))
      refine br (x = k) (e_eql hA _ _) (fun d2 => ?_) (fun d2 => ?_) <;> (try (conv => cbv)) <;> repeat (refine brk_ok hA ?_; (try (conv => cbv)))
      · rw [add64 hA (a := B) (b := 1) (by omega) (by omega), add64 hA (a := j) (b := 1) (by omega) (by omega)]
        exact ih c1 _ _ hAA (by rw [tk, if_pos d2, hB])
      · rw [add64 hA (a := j) (b := 1) (by omega) (by omega)]
        exact ih c1 _ _ hAA (by rw [tk, if_neg d2, hB]; omega)
    · have hAA : A = cnt i (L.take (j + 1).toNat) := by rw [ti, if_neg d1, hAe]; omega
      refine ⟨bL, oL, rfl, in_ok hA hj0 c1, ?_⟩
      ((try (conv => cbv)); repeat (refine brk_ok hA ?_; (try (conv => cbv))))
      refine ⟨x, rd_ok hA hr, ?_⟩
      ((try (conv => cbv)); repeat (refine brk_ok hA ?_; (try (conv => cbv))))
      refine br (x = k) (e_eql hA _ _) (fun d2 => ?_) (fun d2 => ?_) <;> (try (conv => cbv)) <;> repeat (refine brk_ok hA ?_; (try (conv => cbv)))
      · rw [add64 hA (a := B) (b := 1) (by omega) (by omega), add64 hA (a := j) (b := 1) (by omega) (by omega)]
        exact ih c1 _ _ hAA (by rw [tk, if_pos d2, hB])
      · rw [add64 hA (a := j) (b := 1) (by omega) (by omega)]
        exact ih c1 _ _ hAA (by rw [tk, if_neg d2, hB]; omega)
  · rw [List.take_of_length_le (by omega)] at hAe hB
    exact h0 A B hAe hB

theorem shares_ok {h : AHeap} (hlow : h.low ≤ h.next) {a : Option Addr} {n c : Nat} (hn : n ≤ 9223372036854775807) (hc : n ≤ capLow c) {l : List Proj} (hs : Projs h a n l) (nu de i k m : Int) {Q : Value → AHeap → Prop} (hQ : ∀ h', Ext h h' → Q (.bool true) h') : call 5 [.agg #[.slice a n c, .int .i64 nu, .int .i64 de], .int .i64 i, .int .i64 k, .int .i64 m] h Q := by
  have hl := hs.len
  have bt := e_bnot hA true
  refine hA.bodyR Try.func5 r5_ok (show prims _ _ _ = none from rfl) hlow ?_; (try (conv => cbv)); repeat (refine brk_ok hA ?_; (try (conv => cbv)))
  refine alive_ok hA ⟨_, rfl, ?_⟩
  ((try (conv => cbv)); repeat (refine brk_ok hA ?_; (try (conv => cbv))))
  refine great_ok hA hlow hn hs nu de ⟨_, rfl, ?_⟩ (fun hpq => ⟨_, rfl, ?_⟩)
  · ((try (conv => cbv)); repeat (refine brk_ok hA ?_; (try (conv => cbv))))
    exact hQ _ (.refl _)
  ((try (conv => cbv)); repeat (refine brk_ok hA ?_; (try (conv => cbv))))
  have hsh : shortN l := fun p hp' => by have := hpq.1 p hp'; omega
  have h20 := hpq.2
  refine rcheck_ok hA hlow (by omega) hs hsh nu de (fun r h1 hr e1 => ⟨_, rfl, ?_⟩)
  ((try (conv => cbv)); repeat (refine brk_ok hA ?_; (try (conv => cbv))))
  refine br (r ≠ 0) (e_neq hA _ _) (fun c1 => ?_) (fun c1 => ?_) <;> (try (conv => cbv)) <;> repeat (refine brk_ok hA ?_; (try (conv => cbv)))
  · exact hQ _ e1
  have hz : checkQ l nu de = 0 := by omega
  obtain ⟨h8, hnt, hl1, hd, hnu, hfit⟩ := checkQ_zero hz
  have hbd := checkQ_bounds hz
  refine br (i < 0) (e_lss hA _ _) (fun c2 => ?_) (fun c2 => ?_) <;> (try (conv => cbv)) <;> repeat (refine brk_ok hA ?_; (try (conv => cbv)))
  · exact hQ _ e1
  refine br ((n : Int) ≤ i) (by rw [e_geq hA, e_ofNat hA]) (fun c3 => ?_) (fun c3 => ?_) <;> (try (conv => cbv)) <;> repeat (refine brk_ok hA ?_; (try (conv => cbv)))
  · exact hQ _ e1
  refine br (k < 0) (e_lss hA _ _) (fun c4 => ?_) (fun c4 => ?_) <;> (try (conv => cbv)) <;> repeat (refine brk_ok hA ?_; (try (conv => cbv)))
  · exact hQ _ e1
  refine br ((n : Int) ≤ k) (by rw [e_geq hA, e_ofNat hA]) (fun c5 => ?_) (fun c5 => ?_) <;> (try (conv => cbv)) <;> repeat (refine brk_ok hA ?_; (try (conv => cbv)))
  · exact hQ _ e1
  refine br (m < 0) (e_lss hA _ _) (fun c6 => ?_) (fun c6 => ?_) <;> (try (conv => cbv)) <;> repeat (refine brk_ok hA ?_; (try (conv => cbv)))
  · exact hQ _ e1
  refine br (200 < m) (e_gtr hA _ _) (fun c7 => ?_) (fun c7 => ?_) <;> (try (conv => cbv)) <;> repeat (refine brk_ok hA ?_; (try (conv => cbv)))
  · exact hQ _ e1
  rw [bt]
  ((try (conv => cbv)); repeat (refine brk_ok hA ?_; (try (conv => cbv))))
  have i0 : 0 ≤ i := by omega
  have i1 : i < l.length := by omega
  have k0 : 0 ≤ k := by omega
  have k1 : k < l.length := by omega
  refine serveN_is hA (e1.lowOK hlow) (by omega) hc (hs.ext e1) hsh nu de m (fun f1 a1 n1 cc1 u1 s1 sa1 m1 sc1 L1 l1 h2 x2 y2 z2 w2 cp2 v2 q2 => ⟨_, _, _, _, _, _, _, _, _, rfl, ?_⟩)
  ((try (conv => cbv)); repeat (refine brk_ok hA ?_; (try (conv => cbv))))
  have e02 := e1.trans x2
  rcases y2.cases hz ⟨by omega, by omega⟩ with ⟨f16, _⟩ | ⟨f0, t, hst, hL1, hl1', hu1, hs1⟩
  · subst f16
    refine br ((16 : Int) ≠ 0) (e_neq hA _ _) (fun d => ?_) (fun d => absurd (by omega) d) <;> (try (conv => cbv)) <;> repeat (refine brk_ok hA ?_; (try (conv => cbv)))
    have h16 : cmp .eql 16 16 = true := by rw [e_eql hA]; rfl
    rw [h16]
    exact hQ _ e02
  subst f0
  refine br ((0 : Int) ≠ 0) (e_neq hA _ _) (fun d => absurd rfl d) (fun d => ?_) <;> (try (conv => cbv)) <;> repeat (refine brk_ok hA ?_; (try (conv => cbv)))
  subst hl1'
  have hm1 := v2.len
  rw [hL1, itS_len] at hm1
  have hst2 := hst.2.1
  have hv1 := it_valid hz t hst.1
  obtain ⟨_, _, _, hd1, _, hfit1⟩ := checkQ_zero hv1
  rw [← hu1, ← hs1] at hv1 hfit1
  rw [← hs1] at hd1
  have hn1 : n1 = n := by have := z2.len; rw [itL_len] at this; omega
  subst hn1
  refine rcheck_ok hA (e02.lowOK hlow) (by omega) z2 (checkQ_short hv1) u1 s1 (fun r3 h3 hr3 e3 => ⟨_, rfl, ?_⟩)
  ((try (conv => cbv)); repeat (refine brk_ok hA ?_; (try (conv => cbv))))
  refine br (r3 ≠ 0) (e_neq hA _ _) (fun d => absurd (by omega) d) (fun d => ?_) <;> (try (conv => cbv)) <;> repeat (refine brk_ok hA ?_; (try (conv => cbv)))
  refine br (ofNat n1 ≠ ofNat n1) (e_neq hA _ _) (fun d => absurd rfl d) (fun d => ?_) <;> (try (conv => cbv)) <;> repeat (refine brk_ok hA ?_; (try (conv => cbv)))
  refine br (m < (m1 : Int)) (by rw [e_gtr hA, e_ofNat hA]) (fun d => absurd d (by omega)) (fun d => ?_) <;> (try (conv => cbv)) <;> repeat (refine brk_ok hA ?_; (try (conv => cbv)))
  have e03 := e02.trans e3
  have ll := itL_len l t
  have ai := it_at i0 i1 t hst.1
  have ak := it_at k0 k1 t hst.1
  have fi0 := hfit i i0 i1
  have fk0 := hfit k k0 k1
  have fi1 := hfit1 i i0 (by omega)
  have fk1 := hfit1 k k0 (by omega)
  have bi := cnt_le i (itS l t)
  have bk := cnt_le k (itS l t)
  rw [itS_len] at bi bk
  obtain ⟨A, hAA⟩ : ∃ x, x = cnt i (itS l t) := ⟨_, rfl⟩
  obtain ⟨B, hBB⟩ : ∃ x, x = cnt k (itS l t) := ⟨_, rfl⟩
  rw [← hAA] at ai bi
  rw [← hBB] at ak bk
  obtain ⟨b, o, nm, sh, us, wt, ha', hb3, hp, hr9, f0, f1, f2, f3⟩ := (hs.ext e03).at (i := i) i0 (by omega)
  subst ha'
  obtain ⟨b', o', nm', sh', us', wt', e', _, hp', hr9', g0, g1, g2, g3⟩ := (hs.ext e03).at (i := k) k0 (by omega)
  simp only [Option.some.injEq, Addr.mk.injEq, and_true] at e'
  obtain ⟨rfl, rfl⟩ := e'
  rw [hp] at ai fi0
  rw [hp'] at ak fk0
  simp only at ai ak
  rw [ai] at fi1
  rw [ak] at fk1
  obtain ⟨eb, eo, nm2, sh2, us2, wt2, hea, _, hpe, _, _, E1, E2, E3⟩ := (z2.ext e3).at (i := i) i0 (by omega)
  subst hea
  obtain ⟨eb', eo', nm3, sh3, us3, wt3, hea', _, hpe', _, _, F1, F2, F3⟩ := (z2.ext e3).at (i := k) k0 (by omega)
  simp only [Option.some.injEq, Addr.mk.injEq, and_true] at hea'
  obtain ⟨rfl, rfl⟩ := hea'
  rw [ai] at hpe
  rw [ak] at hpe'
  simp only [Proj.mk.injEq] at hpe hpe'
  obtain ⟨_, _, hus2, hwt2⟩ := hpe
  obtain ⟨_, _, hus3, hwt3⟩ := hpe'
  refine ⟨eb, eo, rfl, in_ok hA i0 (by omega), ?_⟩
  ((try (conv => cbv)); repeat (refine brk_ok hA ?_; (try (conv => cbv))))
  refine ⟨wt2, rd_fld hA E3, ?_⟩
  ((try (conv => cbv)); repeat (refine brk_ok hA ?_; (try (conv => cbv))))
  refine br (wt2 = 0) (e_eql hA _ _) (fun d1 => ?_) (fun d1 => ?_) <;> (try (conv => cbv)) <;> repeat (refine brk_ok hA ?_; (try (conv => cbv)))
  · exact hQ _ e03
  refine ⟨eb, eo, rfl, in_ok hA k0 (by omega), ?_⟩
  ((try (conv => cbv)); repeat (refine brk_ok hA ?_; (try (conv => cbv))))
  refine ⟨wt3, rd_fld hA F3, ?_⟩
  ((try (conv => cbv)); repeat (refine brk_ok hA ?_; (try (conv => cbv))))
  refine br (wt3 = 0) (e_eql hA _ _) (fun d2 => ?_) (fun d2 => ?_) <;> (try (conv => cbv)) <;> repeat (refine brk_ok hA ?_; (try (conv => cbv)))
  · exact hQ _ e03
  have wi : 0 ≤ wt2 := by have := fi1.1.2.2.2.2.2.1; simp only at this; omega
  have wk : 0 ≤ wt3 := by have := fk1.1.2.2.2.2.2.1; simp only at this; omega
  obtain ⟨⟨_, p1, p2, p3, p4, p5, p6⟩, _, _⟩ := id fi0
  obtain ⟨⟨_, r1, r2, rr3, r4, r5, r6⟩, _, _⟩ := id fk0
  simp only at p1 p2 p3 p4 p5 p6 r1 r2 rr3 r4 r5 r6
  have S1 := two_fit (by omega) fk0 fi0 (by simp only; omega)
  have S2 := two_fit (by omega) fi0 fk0 (by simp only; omega)
  have T1 := two_fit (by omega) fk1 fi1 (by simp only; omega)
  have T2 := two_fit (by omega) fi1 fk1 (by simp only; omega)
  simp only at S1 S2 T1 T2
  obtain ⟨G1, G2⟩ := two_shares S1 S2 T1 T2
  have m1' := prod_small (a := A) (b := sh') (by omega) (by omega) (by omega) (by omega)
  have m2' := prod_small (a := B) (b := sh) (by omega) (by omega) (by omega) (by omega)
  refine count_loop hA (by omega) (v2.ext e3) (fun A2 B2 hA2 hB2 => ?_) 0 (by omega) (by omega) 0 0 rfl rfl
  rw [hL1, ← hAA] at hA2
  rw [hL1, ← hBB] at hB2
  subst hA2 hB2
  ((try (conv => cbv)); repeat (refine brk_ok hA ?_; (try (conv => cbv))))
  have eb9 : Ext h3 (bump h3 14) := by rw [e_bump hA]; exact .bump _ _
  refine ⟨b, o, rfl, in_ok hA i0 (by omega), ?_⟩
  ((try (conv => cbv)); repeat (refine brk_ok hA ?_; (try (conv => cbv))))
  refine ⟨sh, rd_fld hA (by rw [e_bump hA]; exact f1), ?_⟩
  ((try (conv => cbv)); repeat (refine brk_ok hA ?_; (try (conv => cbv))))
  refine ⟨b, o, rfl, in_ok hA k0 (by omega), ?_⟩
  ((try (conv => cbv)); repeat (refine brk_ok hA ?_; (try (conv => cbv))))
  refine ⟨sh', rd_fld hA (by rw [e_bump hA]; exact g1), ?_⟩
  ((try (conv => cbv)); repeat (refine brk_ok hA ?_; (try (conv => cbv))))
  obtain ⟨D, hD⟩ : ∃ x, x = A2 * sh' - B2 * sh := ⟨_, rfl⟩
  rw [mul64 hA (by omega) (by omega), mul64 hA (by omega) (by omega), sub64 hA (by omega) (by omega), ← hD]
  have hng : neg .i64 D = -D := by rw [e_neg hA, wrap64 (by omega) (by omega)]; omega
  refine br (imax D (neg .i64 D) ≤ sh + sh') (by rw [e_leq hA, add64 hA (by omega) (by omega)]) (fun d => ?_) (fun d => ?_) <;> (try (conv => cbv)) <;> repeat (refine brk_ok hA ?_; (try (conv => cbv)))
  rotate_left
  · exfalso
    apply d
    rw [e_imax hA, hng]
    split <;> omega
  refine ⟨eb, eo, rfl, in_ok hA i0 (by omega), ?_⟩
  ((try (conv => cbv)); repeat (refine brk_ok hA ?_; (try (conv => cbv))))
  refine ⟨us2, rd_fld hA (by rw [e_bump hA, e_bump hA]; exact E2), ?_⟩
  ((try (conv => cbv)); repeat (refine brk_ok hA ?_; (try (conv => cbv))))
  refine ⟨b, o, rfl, in_ok hA i0 (by omega), ?_⟩
  ((try (conv => cbv)); repeat (refine brk_ok hA ?_; (try (conv => cbv))))
  refine ⟨us, rd_fld hA (by rw [e_bump hA, e_bump hA]; exact f2), ?_⟩
  ((try (conv => cbv)); repeat (refine brk_ok hA ?_; (try (conv => cbv))))
  refine br (us2 = us + A2) (by rw [e_eql hA, add64 hA (by omega) (by omega)]) (fun d => ?_) (fun d => absurd (by omega) d) <;> (try (conv => cbv)) <;> repeat (refine brk_ok hA ?_; (try (conv => cbv)))
  refine ⟨eb, eo, rfl, in_ok hA i0 (by omega), ?_⟩
  ((try (conv => cbv)); repeat (refine brk_ok hA ?_; (try (conv => cbv))))
  refine ⟨wt2, rd_fld hA (by rw [e_bump hA, e_bump hA]; exact E3), ?_⟩
  ((try (conv => cbv)); repeat (refine brk_ok hA ?_; (try (conv => cbv))))
  refine ⟨b, o, rfl, in_ok hA i0 (by omega), ?_⟩
  ((try (conv => cbv)); repeat (refine brk_ok hA ?_; (try (conv => cbv))))
  refine ⟨wt, rd_fld hA (by rw [e_bump hA, e_bump hA]; exact f3), ?_⟩
  ((try (conv => cbv)); repeat (refine brk_ok hA ?_; (try (conv => cbv))))
  have hfin : cmp .eql wt2 (arith .sub .i64 wt A2) = true := by rw [e_eql hA, sub64 hA (by omega) (by omega)]; simp; omega
  rw [hfin]
  ((try (conv => cbv)); repeat (refine brk_ok hA ?_; (try (conv => cbv))))
  exact hQ _ (by rw [e_bump hA, e_bump hA]; exact e03.trans ((Ext.bump _ _).trans (Ext.bump _ _)))

end Go.Proofs.Ytlpnmdknlfmjaaa
