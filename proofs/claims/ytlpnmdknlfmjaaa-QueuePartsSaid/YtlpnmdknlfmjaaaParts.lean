/-
  fringelaw42.QueueParts in the abstract machine: true.
-/
import Derived.Test.YtlpnmdknlfmjaaaPartsLaw
import Derived.Test.YtlpnmdknlfmjaaaLevel
import Derived.Test.YtlpnmdknlfmjaaaSymC
namespace Go.Proofs.Ytlpnmdknlfmjaaa
open Go.Sim
set_option linter.unusedVariables false
set_option maxRecDepth 100000

variable {call : FuncId → List Value → AHeap → (Value → AHeap → Prop) → Prop}
  {head : FuncId → Nat → Nat → SS → (Exit → SS → Prop) → Prop}
  {arith : BinOp → IntKind → Int → Int → Int}
  {cmp : BinOp → Int → Int → Bool}
  {scmp : BinOp → ByteArray → ByteArray → Bool}
  {bnot : Bool → Bool}
  {bsame : Bool → Bool → Bool}
  {conv : IntKind → Int → Int}
  {neg : IntKind → Int → Int}
  {imax : Int → Int → Int}
  {imin : Int → Int → Int}
  {ofNat : Nat → Int}
  {slen : ByteArray → Int}
  {place : Nat → Int → Nat → Nat}
  {inR : Int → Nat → Prop}
  {nz : Int → Prop}
  {geZ : Int → Prop}
  {rd : AHeap → Nat → Nat → Nat → List Value → Prop}
  {wr : AHeap → Nat → Nat → List Value → AHeap → Prop}
  {push : AHeap → Nat → List Value → AHeap}
  {next : AHeap → Nat}
  {mkOK : Int → Int → Prop}
  {nat : Int → Nat}
  {zeros : List Value → Int → List Value}
  {sadd : ByteArray → ByteArray → (ByteArray → Prop) → Prop}
  {eqAgg : TypeId → Array Value → Array Value → (Bool → Prop) → Prop}
  {cut : Nat → Int → Prop}
  {slc : TypeId → Value → Option Value → Option Value → Option Value → (Option Addr → Nat → Nat → Prop) → Prop}
  {sslc : TypeId → ByteArray → Option Value → Option Value → (ByteArray → Prop) → Prop}
  {strAt : ByteArray → Int → (Int → Prop) → Prop}
  {part : TypeId → Array Value → Nat → Value → Prop}
  {app : List TypeId → List Value → AHeap → (Option Addr → Nat → Nat → AHeap → Prop) → Prop}
  {cpy : List TypeId → List Value → AHeap → (Int → AHeap → Prop) → Prop}
  {putAt : AHeap → Nat → Nat → List Value → AHeap}
  {fresh : AHeap → AHeap}
  {lowered : AHeap → AHeap → AHeap}
  {bump : AHeap → Nat → AHeap}
  {wrote : AHeap → AHeap → Bool}
  {addN : Nat → Nat → Nat}
  {lt : Nat → Nat → Prop}
  {ne : Nat → Nat → Prop}
  {fpAll : Bool → Bool → Bool → Nat → Nat → Prop}
  {brk : (Unit → Prop) → Prop}
  (hA : AOK progU hint prims ⟨call, head, arith, cmp, scmp, bnot, bsame, conv, neg, imax, imin, ofNat, slen, place, inR, nz, geZ, rd, wr, push, next, mkOK, nat, zeros, sadd, eqAgg, cut, slc, sslc, strAt, part, app, cpy, putAt, fresh, lowered, bump, wrote, addN, lt, ne, fpAll, brk⟩)
include hA

theorem all_loop {h : AHeap} {a : Option Addr} {n c : Nat} {l : List Proj} (hs : Projs h a n l) (hb : bounds l) (h8 : l.length ≤ 8) {nu de x y : Int} {Q : Exit → SS → Prop}
    (h0 : ∀ r, r = all' l → Q (.exit 0) ⟨[(1, .int .i64 x), (2, .int .i64 y), (3, .pointer (some ⟨0, 0, some 0⟩)), (7, .bool true), (8, .int .i64 r)], 1, [(0, [.slice a n c, .int .i64 nu, .int .i64 de])], h⟩) :
    ∀ (i : Int), 0 ≤ i → i ≤ n → ∀ r, r = sumTo l i.toNat → head 6 6 1 ⟨[(1, .int .i64 x), (2, .int .i64 y), (3, .pointer (some ⟨0, 0, some 0⟩)), (7, .bool true), (8, .int .i64 r), (9, .int .i64 i)], 1, [(0, [.slice a n c, .int .i64 nu, .int .i64 de])], h⟩ Q := by
  have hl := hs.len
  refine countUp (fun i hi0 hin ih r hr => ?_)
  have sb := sumTo_bounds hb i.toNat (by omega)
  have ss := sumTo_succ l hi0
  refine hA.roundR Try.func6 r6_ok ?_; (try (conv => cbv)); repeat (refine brk_ok hA ?_; (try (conv => cbv)))
  refine br (i < n) (by rw [e_lss hA, e_ofNat hA]) (fun c1 => ?_) (fun c1 => ?_) <;> (try (conv => cbv)) <;> repeat (refine brk_ok hA ?_; (try (conv => cbv)))
  · obtain ⟨b, o, nm, sh, us, wt, rfl, hb3, hp, hrr, _, _, _, f3⟩ := hs.at hi0 c1
    have bi := hb _ (pj_mem l hi0 (by omega : i < l.length))
    rw [hp] at ss bi
    obtain ⟨_, _, _, _, b5, b6⟩ := bi
    simp only at ss b5 b6
    refine ⟨b, o, rfl, in_ok hA hi0 c1, ?_⟩
    ((try (conv => cbv)); repeat (refine brk_ok hA ?_; (try (conv => cbv))))
    refine ⟨wt, rd_fld hA f3, ?_⟩
    ((try (conv => cbv)); repeat (refine brk_ok hA ?_; (try (conv => cbv))))
    rw [add64 hA (a := r) (b := wt) (by omega) (by omega), add64 hA (a := i) (b := 1) (by omega) (by omega)]
    exact ih c1 _ (by rw [ss, hr])
  · exact h0 r (by rw [hr]; unfold all'; rw [show l.length = i.toNat by omega])

theorem parts_loop {h : AHeap} (hlow : h.low ≤ h.next) {n : Nat} {l : List Proj} {nu de : Int} (hz : checkQ l nu de = 0) (hl : l.length = n) {k1 : Nat} (hall : ∀ j, j < k1 → serveE (itL l j) = 0) (hk : k1 ≤ 1000) {aL : Option Addr} {cL : Nat} (hL : Ints h .i64 aL k1 (itS l k1)) {v0 v1 v2 v3 : List Value} {am ao : Option Addr} {nm cm no co : Nat} {Q : Exit → SS → Prop}
    (h0 : ∀ h' a c u s, Ext h h' → Projs h' a n (itL l k1) → u = itNu l nu k1 → s = itDe l de k1 → Q (.exit 2) ⟨[(7, .bool true), (10, .pointer (some ⟨1, 0, some 0⟩)), (11, .slice aL k1 cL), (13, .pointer (some ⟨2, 0, some 0⟩)), (14, .slice am nm cm), (16, .pointer (some ⟨3, 0, some 0⟩)), (17, .slice ao no co), (19, .pointer (some ⟨4, 0, some 0⟩))], 5, [(0, v0), (1, v1), (2, v2), (3, v3), (4, [.slice a n c, .int .i64 u, .int .i64 s])], h'⟩) :
    ∀ (i : Int), 0 ≤ i → i ≤ k1 → ∀ h' a c u s, Ext h h' → Projs h' a n (itL l i.toNat) → n ≤ capLow c → u = itNu l nu i.toNat → s = itDe l de i.toNat →
      head 6 20 5 ⟨[(7, .bool true), (10, .pointer (some ⟨1, 0, some 0⟩)), (11, .slice aL k1 cL), (13, .pointer (some ⟨2, 0, some 0⟩)), (14, .slice am nm cm), (16, .pointer (some ⟨3, 0, some 0⟩)), (17, .slice ao no co), (19, .pointer (some ⟨4, 0, some 0⟩)), (20, .int .i64 i)], 5, [(0, v0), (1, v1), (2, v2), (3, v3), (4, [.slice a n c, .int .i64 u, .int .i64 s])], h'⟩ Q := by
  have h8 := (checkQ_zero hz).1
  refine countUp (fun i hi0 hin ih h' a c u s he hs hc hu hs' => ?_)
  refine hA.roundR Try.func6 r6_ok ?_; (try (conv => cbv)); repeat (refine brk_ok hA ?_; (try (conv => cbv)))
  refine br (i < k1) (by rw [e_lss hA, e_ofNat hA]) (fun c1 => ?_) (fun c1 => ?_) <;> (try (conv => cbv)) <;> repeat (refine brk_ok hA ?_; (try (conv => cbv)))
  · have hv := it_valid hz i.toNat (fun j hj => hall j (by omega))
    have hbd := checkQ_bounds hv
    have hE := hall i.toNat (by omega)
    rw [← hu, ← hs'] at hv
    have hnE : nextE (itL l i.toNat) u s = 0 := by unfold nextE; rw [if_pos hv]; exact hE
    have nv := serve_valid hv hE
    have ll := itL_len l i.toNat
    have esu : (i + 1).toNat = i.toNat + 1 := by omega
    obtain ⟨bL, oL, x, haL, hbL, hx, hrL⟩ := hL.atI hi0 c1
    subst haL
    rw [itS_at l k1 hi0 c1] at hx
    refine rturn_ok hA (he.lowOK hlow) (by omega) hs hbd u s (fun t h1 e1 ht => ⟨_, rfl, ?_⟩)
    ((try (conv => cbv)); repeat (refine brk_ok hA ?_; (try (conv => cbv))))
    have e01 := he.trans e1
    refine nextQ_ok hA (e01.lowOK hlow) (by omega) hc (hs.ext e1) (checkQ_short hv) u s (fun e h2 e2 hE2 hE0 => ?_) (fun nb j u2 s2 h2 e2 b0 b1 on hE2 hj hu2 hs2 => ⟨_, _, _, _, _, _, _, rfl, ?_⟩)
    · exact absurd (by rw [hE2, hnE]) hE0
    ((try (conv => cbv)); repeat (refine brk_ok hA ?_; (try (conv => cbv))))
    have e02 := e01.trans e2
    have pn := on.projs' b1 (n := n) (by rw [serveL_len]; omega)
    rw [← hu2, ← hs2] at nv
    refine br ((0 : Int) ≠ 0) (e_neq hA _ _) (fun d => absurd rfl d) (fun d => ?_) <;> (try (conv => cbv)) <;> repeat (refine brk_ok hA ?_; (try (conv => cbv)))
    refine rcheck_ok hA (e02.lowOK hlow) (by omega) pn (checkQ_short nv) u2 s2 (fun r3 h3 hr3 e3 => ⟨_, rfl, ?_⟩)
    ((try (conv => cbv)); repeat (refine brk_ok hA ?_; (try (conv => cbv))))
    refine br (r3 ≠ 0) (e_neq hA _ _) (fun d => absurd (by omega) d) (fun d => ?_) <;> (try (conv => cbv)) <;> repeat (refine brk_ok hA ?_; (try (conv => cbv)))
    have e03 := e02.trans e3
    obtain ⟨bL', oL', x', haL', hbL', hx', hrL'⟩ := (hL.ext e03).atI hi0 c1
    simp only [Option.some.injEq, Addr.mk.injEq, and_true] at haL'
    obtain ⟨rfl, rfl⟩ := haL'
    rw [itS_at l k1 hi0 c1, ← hx] at hx'
    subst hx'
    refine ⟨bL, oL, rfl, in_ok hA hi0 c1, ?_⟩
    ((try (conv => cbv)); repeat (refine brk_ok hA ?_; (try (conv => cbv))))
    refine ⟨x', rd_ok hA hrL', ?_⟩
    ((try (conv => cbv)); repeat (refine brk_ok hA ?_; (try (conv => cbv))))
    refine br (j ≠ x') (e_neq hA _ _) (fun d => absurd (by rw [hj, hx]) d) (fun d => ?_) <;> (try (conv => cbv)) <;> repeat (refine brk_ok hA ?_; (try (conv => cbv)))
    refine br (j ≠ t) (e_neq hA _ _) (fun d => absurd (by rw [hj, ht]) d) (fun d => ?_) <;> (try (conv => cbv)) <;> repeat (refine brk_ok hA ?_; (try (conv => cbv)))
    rw [add64 hA (by omega) (by omega)]
    exact ih c1 h3 _ n u2 s2 e03 (by rw [esu]; exact pn.ext e3) (by unfold capLow slack; omega) (by rw [esu, hu2]; rfl) (by rw [esu, hs2]; rfl)
  · have ei : i.toNat = k1 := by omega
    rw [ei] at hs hu hs'
    exact h0 h' a c u s he hs hu hs'

theorem parts_ok {h : AHeap} (hlow : h.low ≤ h.next) {a : Option Addr} {n c : Nat} (hn : n ≤ 9223372036854775807) (hc : n ≤ capLow c) {l : List Proj} (hs : Projs h a n l) (nu de x y : Int) {Q : Value → AHeap → Prop} (hQ : ∀ h', Ext h h' → Q (.bool true) h') : call 6 [.agg #[.slice a n c, .int .i64 nu, .int .i64 de], .int .i64 x, .int .i64 y] h Q := by
  have hl := hs.len
  have bt := e_bnot hA true
  refine hA.bodyR Try.func6 r6_ok (show prims _ _ _ = none from rfl) hlow ?_; (try (conv => cbv)); repeat (refine brk_ok hA ?_; (try (conv => cbv)))
  refine alive_ok hA ⟨_, rfl, ?_⟩
  ((try (conv => cbv)); repeat (refine brk_ok hA ?_; (try (conv => cbv))))
  refine great_ok hA hlow hn hs nu de ⟨_, rfl, ?_⟩ (fun hpq => ⟨_, rfl, ?_⟩)
  · ((try (conv => cbv)); repeat (refine brk_ok hA ?_; (try (conv => cbv))))
    exact hQ _ (.refl _)
  ((try (conv => cbv)); repeat (refine brk_ok hA ?_; (try (conv => cbv))))
  have hsh : shortN l := fun p hp' => by have := hpq.1 p hp'; omega
  have h20 := hpq.2
  refine rcheck_ok hA hlow (by omega) hs hsh nu de (fun r h1 hr e1 => ⟨_, rfl, ?_⟩)
  ((try (conv => cbv)); repeat (refine brk_ok hA ?_; (try (conv => cbv))))
  refine br (r ≠ 0) (e_neq hA _ _) (fun c1 => ?_) (fun c1 => ?_) <;> (try (conv => cbv)) <;> repeat (refine brk_ok hA ?_; (try (conv => cbv)))
  · exact hQ _ e1
  have hz : checkQ l nu de = 0 := by omega
  obtain ⟨h8, hnt, hl1, hd, hnu, hfit⟩ := checkQ_zero hz
  have hbd := checkQ_bounds hz
  refine br (x < 0) (e_lss hA _ _) (fun c2 => ?_) (fun c2 => ?_) <;> (try (conv => cbv)) <;> repeat (refine brk_ok hA ?_; (try (conv => cbv)))
  · exact hQ _ e1
  refine br (100 < x) (e_gtr hA _ _) (fun c3 => ?_) (fun c3 => ?_) <;> (try (conv => cbv)) <;> repeat (refine brk_ok hA ?_; (try (conv => cbv)))
  · exact hQ _ e1
  refine br (y < 0) (e_lss hA _ _) (fun c4 => ?_) (fun c4 => ?_) <;> (try (conv => cbv)) <;> repeat (refine brk_ok hA ?_; (try (conv => cbv)))
  · exact hQ _ e1
  refine br (100 < y) (e_gtr hA _ _) (fun c5 => ?_) (fun c5 => ?_) <;> (try (conv => cbv)) <;> repeat (refine brk_ok hA ?_; (try (conv => cbv)))
  · exact hQ _ e1
  rw [bt]
  ((try (conv => cbv)); repeat (refine brk_ok hA ?_; (try (conv => cbv))))
  refine all_loop hA (hs.ext e1) hbd h8 (fun A hAll => ?_) 0 (by omega) (by omega) 0 rfl
  ((try (conv => cbv)); repeat (refine brk_ok hA ?_; (try (conv => cbv))))
  refine serveN_is hA (e1.lowOK hlow) (by omega) hc (hs.ext e1) hsh nu de x (fun f1 a1 n1 k1 u1 s1 sa1 m1 sc1 L1 l1 h2 x2 y2 z2 w2 cp2 v2 q2 => ⟨_, _, _, _, _, _, _, _, _, rfl, ?_⟩)
  ((try (conv => cbv)); repeat (refine brk_ok hA ?_; (try (conv => cbv))))
  have e02 := e1.trans x2
  rcases y2.cases hz ⟨by omega, by omega⟩ with ⟨f16, _⟩ | ⟨f0, k, hst, hL1, hl1', hu1, hs1⟩
  · subst f16
    refine br ((16 : Int) ≠ 0) (e_neq hA _ _) (fun d => ?_) (fun d => absurd (by omega) d) <;> (try (conv => cbv)) <;> repeat (refine brk_ok hA ?_; (try (conv => cbv)))
    have h16 : cmp .eql 16 16 = true := by rw [e_eql hA]; rfl
    rw [h16]
    exact hQ _ e02
  subst f0
  refine br ((0 : Int) ≠ 0) (e_neq hA _ _) (fun d => absurd rfl d) (fun d => ?_) <;> (try (conv => cbv)) <;> repeat (refine brk_ok hA ?_; (try (conv => cbv)))
  subst hL1 hl1'
  have hk1 := v2.len
  rw [itS_len] at hk1
  subst hk1
  have hv1 := it_valid hz k hst.1
  rw [← hu1, ← hs1] at hv1
  refine serveN_is hA (e02.lowOK hlow) (by omega) cp2 z2 (checkQ_short hv1) u1 s1 y (fun f3 a3 n3 k3 u3 s3 sa3 m3 sc3 L3 l3 h3 x3 y3 z3 w3 cp3 v3 q3 => ⟨_, _, _, _, _, _, _, _, _, rfl, ?_⟩)
  ((try (conv => cbv)); repeat (refine brk_ok hA ?_; (try (conv => cbv))))
  have e03 := e02.trans x3
  rw [add64 hA (by omega) (by omega)]
  refine serveN_is hA (e03.lowOK hlow) (by omega) hc (hs.ext e03) hsh nu de (x + y) (fun f4 a4 n4 k4 u4 s4 sa4 m4 sc4 L4 l4 h4 x4 y4 z4 w4 cp4 v4 q4 => ⟨_, _, _, _, _, _, _, _, _, rfl, ?_⟩)
  ((try (conv => cbv)); repeat (refine brk_ok hA ?_; (try (conv => cbv))))
  have e04 := e03.trans x4
  have hmin := served_min hz hst
  rw [← hAll] at hmin
  have hmn : imin x A = k := by rw [e_imin hA, hmin]
  have bothE : f3 = f4 := by
    rcases y3.cases hv1 ⟨by omega, by omega⟩ with ⟨g, k', hs'⟩ | ⟨g, k', hs', _⟩ <;> rcases y4.cases hz ⟨by omega, by omega⟩ with ⟨g2, k'', hs''⟩ | ⟨g2, k'', hs'', _⟩
    · omega
    · have := ((hst.join hs').unique hs'').2; omega
    · have := ((hst.join hs').unique hs'').2; omega
    · omega
  subst bothE
  refine br (f3 ≠ f3) (e_neq hA _ _) (fun d => absurd rfl d) (fun d => ?_) <;> (try (conv => cbv)) <;> repeat (refine brk_ok hA ?_; (try (conv => cbv)))
  refine br ((k : Int) ≠ k) (by rw [e_neq hA, e_ofNat hA, hmn]) (fun d => absurd rfl d) (fun d => ?_) <;> (try (conv => cbv)) <;> repeat (refine brk_ok hA ?_; (try (conv => cbv)))
  rcases y3.cases hv1 ⟨by omega, by omega⟩ with ⟨f16, _⟩ | ⟨f0, j, hst3, hL3, hl3, hu3, hs3⟩
  · subst f16
    refine br ((16 : Int) ≠ 0) (e_neq hA _ _) (fun d => ?_) (fun d => absurd (by omega) d) <;> (try (conv => cbv)) <;> repeat (refine brk_ok hA ?_; (try (conv => cbv)))
    have h16 : cmp .eql 16 16 = true := by rw [e_eql hA]; rfl
    rw [h16]
    exact hQ _ e04
  subst f0
  refine br ((0 : Int) ≠ 0) (e_neq hA _ _) (fun d => absurd rfl d) (fun d => ?_) <;> (try (conv => cbv)) <;> repeat (refine brk_ok hA ?_; (try (conv => cbv)))
  have hn1 : n1 = n := by have := z2.len; rw [itL_len] at this; omega
  subst hn1
  obtain ⟨hL4, hl4, hu4, hs4⟩ : L4 = itS l (k + j) ∧ l4 = itL l (k + j) ∧ u4 = itNu l nu (k + j) ∧ s4 = itDe l de (k + j) := by
    rcases y4.cases hz ⟨by omega, by omega⟩ with ⟨g2, k'', hs''⟩ | ⟨g2, k'', hs'', hh⟩
    · omega
    · obtain ⟨rfl, _⟩ := (hst.join hst3).unique hs''
      exact hh
  rw [itL_add] at hl3
  rw [hu1, itNu_add] at hu3
  rw [hs1, itDe_add] at hs3
  refine parts_loop hA (e04.lowOK hlow) hz (by omega) hst.1 (by omega) (v2.ext (x3.trans x4)) (fun h5 a5 c5 u5 s5 e5 p5 hu5 hs5 => ?_) 0 (by omega) (by omega) h4 a c nu de (.refl _) (hs.ext e04) hc rfl rfl
  ((try (conv => cbv)); repeat (refine brk_ok hA ?_; (try (conv => cbv))))
  have e05 := e04.trans e5
  refine same_ok hA (e05.lowOK hlow) (by omega) p5 (z2.ext (x3.trans (x4.trans e5))) u5 s5 u1 s1 (fun r6 h6 e6 hr6 => ⟨_, rfl, ?_⟩)
  have q6 : r6 = true := hr6.2 ⟨rfl, by rw [hu5, hu1], by rw [hs5, hs1]⟩
  subst q6
  ((try (conv => cbv)); repeat (refine brk_ok hA ?_; (try (conv => cbv))))
  have e06 := e05.trans e6
  have e56 := e5.trans e6
  refine same_ok hA (e06.lowOK hlow) (by omega) (z3.ext (x4.trans e56)) (z4.ext e56) u3 s3 u4 s4 (fun r7 h7 e7 hr7 => ⟨_, rfl, ?_⟩)
  have q7 : r7 = true := hr7.2 ⟨by rw [hl3, hl4], by rw [hu3, hu4], by rw [hs3, hs4]⟩
  subst q7
  ((try (conv => cbv)); repeat (refine brk_ok hA ?_; (try (conv => cbv))))
  have e07 := e06.trans e7
  have e57 := e56.trans e7
  have e8 := Ext.push h7 1 []
  have o8 := Own.push h7 1 []
  have x8 : h7.next < (h7.push 1 []).next := Nat.lt_succ_self _
  rw [e_push hA, e_next hA]
  generalize h7.push 1 [] = h8 at *
  obtain ⟨nb, hnb⟩ : ∃ x, x = h7.next := ⟨_, rfl⟩
  rw [← hnb] at o8 x8 ⊢
  have lm3 := v3.len
  rw [hL3, itS_len] at lm3
  obtain ⟨b9, c9, h9, ap9, o9, E9⟩ := append_any (P := Try.prog) (t := 31) (t2 := 31) (c2 := sc1) T31 T31.und ⟨o8, x8, by simp, .inl ⟨rfl, rfl⟩⟩ (v2.ext (x3.trans (x4.trans (e57.trans e8)))).cells rfl (ints_ok _ _) (by omega)
  rw [Nat.zero_add] at ap9 o9
  rw [e_app hA]
  refine ⟨_, _, _, _, ap9, ?_⟩
  ((try (conv => cbv)); repeat (refine brk_ok hA ?_; (try (conv => cbv))))
  obtain ⟨e79, b79⟩ := E9 h7 e8 (by omega)
  obtain ⟨b10, c10, h10, ap10, o10, E10⟩ := append_any (P := Try.prog) (t := 31) (t2 := 31) (c2 := sc3) T31 T31.und o9 (v3.ext (x4.trans (e57.trans e79))).cells (by rw [List.nil_append]; exact ints_ok _ _) (ints_ok _ _) (by omega)
  obtain ⟨km, hkm⟩ : ∃ x, x = k + m3 := ⟨_, rfl⟩
  rw [← hkm] at ap10 o10
  rw [e_app hA]
  refine ⟨_, _, _, _, ap10, ?_⟩
  ((try (conv => cbv)); repeat (refine brk_ok hA ?_; (try (conv => cbv))))
  obtain ⟨e710, b710⟩ := E10 h7 e79 b79
  obtain ⟨o10a, o10b, o10c, _⟩ := o10
  have e010 := e07.trans e710
  rw [List.nil_append, ← List.map_append] at o10a
  refine sameInts_ok hA (e010.lowOK hlow) (by omega) (o10a.ints o10b (by rw [hL3, List.length_append, itS_len, itS_len]; omega)) (v4.ext (e57.trans e710)) (fun r11 h11 e11 hr11 => ⟨_, rfl, ?_⟩)
  have q11 : r11 = true := hr11.2 (by rw [hL3, hL4, itS_add])
  subst q11
  ((try (conv => cbv)); repeat (refine brk_ok hA ?_; (try (conv => cbv))))
  exact hQ _ (e010.trans e11)

end Go.Proofs.Ytlpnmdknlfmjaaa
