/-
  fringelaw42.QueueServes in the abstract machine: true.
-/
import Derived.Test.YtlpnmdknlfmjaaaQRun
namespace Go.Proofs.Ytlpnmdknlfmjaaa
open Go.Sim
set_option linter.unusedVariables false
set_option maxRecDepth 100000

theorem _root_.Go.Sim.Own.projs' {h : AHeap} {pb : Nat} {l : List Proj} (c : Own h pb 4 (flatP l)) (hb : pb < h.next) {n : Nat} (hn : l.length = n) : Projs h (some ⟨pb, 0, none⟩) n l := c.projs hb hn.symm
theorem projs_nil (h : AHeap) : Projs h none 0 [] := ⟨rfl, rfl⟩

/-- What Next returns. -/
def NextIs (l : List Proj) (nu de : Int) (e i : Int) (l' : List Proj) (u s : Int) : Prop :=
  (e = nextE l nu de ∧ e ≠ 0 ∧ i = 0 ∧ l' = [] ∧ u = 0 ∧ s = 0) ∨ (e = 0 ∧ nextE l nu de = 0 ∧ i = turnF l ∧ l' = serveL l ∧ u = newNu l ∧ s = newDe l)
theorem NextIs.unique {l : List Proj} {nu de e i u s e2 i2 u2 s2 : Int} {l' l2 : List Proj} (h : NextIs l nu de e i l' u s) (h2 : NextIs l nu de e2 i2 l2 u2 s2) : e2 = e ∧ i2 = i ∧ l2 = l' ∧ u2 = u ∧ s2 = s := by
  rcases h with ⟨a1, a2, a3, a4, a5, a6⟩ | ⟨a1, a2, a3, a4, a5, a6⟩ <;> rcases h2 with ⟨b1, b2, b3, b4, b5, b6⟩ | ⟨b1, b2, b3, b4, b5, b6⟩
  · subst a4 b4; exact ⟨by omega, by omega, rfl, by omega, by omega⟩
  · omega
  · omega
  · subst a4 b4; exact ⟨by omega, by omega, rfl, by omega, by omega⟩

/-- What Serve returns. -/
def ServeIs (l : List Proj) (nu de m : Int) (e : Int) (L : List Int) (l' : List Proj) (u s : Int) : Prop :=
  (e ≠ 0 ∧ (e = checkQ l nu de ∨ (checkQ l nu de = 0 ∧ ¬ (0 ≤ m ∧ m ≤ 1000) ∧ e = 2) ∨ (checkQ l nu de = 0 ∧ (0 ≤ m ∧ m ≤ 1000) ∧ e = 16 ∧ ∃ k, Stops l m k 16)) ∧ L = [] ∧ l' = [] ∧ u = 0 ∧ s = 0) ∨
  (e = 0 ∧ checkQ l nu de = 0 ∧ (0 ≤ m ∧ m ≤ 1000) ∧ ∃ k, Stops l m k 0 ∧ L = itS l k ∧ l' = itL l k ∧ u = itNu l nu k ∧ s = itDe l de k)
theorem ServeIs.unique {l : List Proj} {nu de m e u s e2 u2 s2 : Int} {L L2 : List Int} {l' l2 : List Proj} (h : ServeIs l nu de m e L l' u s) (h2 : ServeIs l nu de m e2 L2 l2 u2 s2) : e2 = e ∧ L2 = L ∧ l2 = l' ∧ u2 = u ∧ s2 = s := by
  rcases h with ⟨a1, a2, a3, a4, a5, a6⟩ | ⟨a1, a2, a3, k, a4, a5, a6, a7, a8⟩ <;> rcases h2 with ⟨b1, b2, b3, b4, b5, b6⟩ | ⟨b1, b2, b3, k2, b4, b5, b6, b7, b8⟩
  · subst a3 b3 a4 b4
    refine ⟨?_, rfl, rfl, by omega, by omega⟩
    rcases a2 with a2 | ⟨a2, a7, a8⟩ | ⟨a2, a7, a8, k, a9⟩ <;> rcases b2 with b2 | ⟨b2, b7, b8⟩ | ⟨b2, b7, b8, k2, b9⟩ <;> omega
  · rcases a2 with a2 | ⟨a2, a7, a8⟩ | ⟨a2, a7, a8, k, a9⟩
    · omega
    · exact absurd b3 a7
    · have := (a9.unique b4).2; omega
  · rcases b2 with b2 | ⟨b2, b7, b8⟩ | ⟨b2, b7, b8, k2, b9⟩
    · omega
    · exact absurd a3 b7
    · have := (a4.unique b9).2; omega
  · obtain ⟨rfl, _⟩ := a4.unique b4
    subst a5 b5 a6 b6
    exact ⟨by omega, rfl, rfl, by omega, by omega⟩

variable {call : FuncId → List Value → AHeap → (Value → AHeap → Prop) → Prop}
  {head : FuncId → Nat → Nat → SS → (Exit → SS → Prop) → Prop}
  {arith : BinOp → IntKind → Int → Int → Int}
  {cmp : BinOp → Int → Int → Bool}
  {scmp : BinOp → ByteArray → ByteArray → Bool}
  {bnot : Bool → Bool}
  {bsame : Bool → Bool → Bool}
  {conv : IntKind → Int → Int}
  {neg : IntKind → Int → Int}
  {imax : Int → Int → Int}
  {imin : Int → Int → Int}
  {ofNat : Nat → Int}
  {slen : ByteArray → Int}
  {place : Nat → Int → Nat → Nat}
  {inR : Int → Nat → Prop}
  {nz : Int → Prop}
  {geZ : Int → Prop}
  {rd : AHeap → Nat → Nat → Nat → List Value → Prop}
  {wr : AHeap → Nat → Nat → List Value → AHeap → Prop}
  {push : AHeap → Nat → List Value → AHeap}
  {next : AHeap → Nat}
  {mkOK : Int → Int → Prop}
  {nat : Int → Nat}
  {zeros : List Value → Int → List Value}
  {sadd : ByteArray → ByteArray → (ByteArray → Prop) → Prop}
  {eqAgg : TypeId → Array Value → Array Value → (Bool → Prop) → Prop}
  {cut : Nat → Int → Prop}
  {slc : TypeId → Value → Option Value → Option Value → Option Value → (Option Addr → Nat → Nat → Prop) → Prop}
  {sslc : TypeId → ByteArray → Option Value → Option Value → (ByteArray → Prop) → Prop}
  {strAt : ByteArray → Int → (Int → Prop) → Prop}
  {part : TypeId → Array Value → Nat → Value → Prop}
  {app : List TypeId → List Value → AHeap → (Option Addr → Nat → Nat → AHeap → Prop) → Prop}
  {cpy : List TypeId → List Value → AHeap → (Int → AHeap → Prop) → Prop}
  {putAt : AHeap → Nat → Nat → List Value → AHeap}
  {fresh : AHeap → AHeap}
  {lowered : AHeap → AHeap → AHeap}
  {bump : AHeap → Nat → AHeap}
  {wrote : AHeap → AHeap → Bool}
  {addN : Nat → Nat → Nat}
  {lt : Nat → Nat → Prop}
  {ne : Nat → Nat → Prop}
  {fpAll : Bool → Bool → Bool → Nat → Nat → Prop}
  {brk : (Unit → Prop) → Prop}
  (hA : AOK progU hint prims ⟨call, head, arith, cmp, scmp, bnot, bsame, conv, neg, imax, imin, ofNat, slen, place, inR, nz, geZ, rd, wr, push, next, mkOK, nat, zeros, sadd, eqAgg, cut, slc, sslc, strAt, part, app, cpy, putAt, fresh, lowered, bump, wrote, addN, lt, ne, fpAll, brk⟩)
include hA

theorem nextQ_is {h : AHeap} (hlow : h.low ≤ h.next) {a : Option Addr} {n c : Nat} (hn : n ≤ 1000000) (hc : n ≤ capLow c) {l : List Proj} (hs : Projs h a n l) (hsh : shortN l) (nu de : Int) {Q : Value → AHeap → Prop}
    (hQ : ∀ e i a' n' c' u s l' h', Ext h h' → NextIs l nu de e i l' u s → Projs h' a' n' l' → n' ≤ n → n' ≤ capLow c' → From h.next a' → (∀ ad, a' = some ad → Own h' ad.block 4 (flatP l') ∧ ad.off = 0) → Q (.tuple #[.agg #[.slice a' n' c', .int .i64 u, .int .i64 s], .int .i64 i, .int .i64 e]) h') :
    call 11 [.agg #[.slice a n c, .int .i64 nu, .int .i64 de]] h Q := by
  have hl := hs.len
  refine nextQ_ok hA hlow hn hc hs hsh nu de (fun e h' he h1 h2 => ?_) (fun b i u s h' he hb0 hb1 ho h1 h2 h3 h4 => ?_)
  · exact hQ e 0 none 0 0 0 0 [] h' he (.inl ⟨h1, h2, rfl, rfl, rfl, rfl⟩) (projs_nil _) (by omega) (by omega) (.none _) (fun ad h => by cases h)
  · exact hQ 0 i _ n n u s (serveL l) h' he (.inr ⟨rfl, h1, h2, rfl, h3, h4⟩) (ho.projs' hb1 (by rw [serveL_len]; exact hl)) (by omega) (by unfold capLow slack; omega) (fun ad had => by cases had; exact hb0) (fun ad had => by cases had; exact ⟨ho, rfl⟩)

theorem rnext_is {h : AHeap} (hlow : h.low ≤ h.next) {a : Option Addr} {n c : Nat} (hn : n ≤ 1000000) {l : List Proj} (hs : Projs h a n l) (hsh : shortN l) (nu de : Int) {Q : Value → AHeap → Prop}
    (hQ : ∀ e i a' n' c' u s l' h', Ext h h' → NextIs l nu de e i l' u s → Projs h' a' n' l' → n' ≤ n → Q (.tuple #[.agg #[.slice a' n' c', .int .i64 u, .int .i64 s], .int .i64 i, .int .i64 e]) h') :
    call 12 [.agg #[.slice a n c, .int .i64 nu, .int .i64 de]] h Q := by
  have hl := hs.len
  refine rnext_ok hA hlow hn hs hsh nu de (fun e h' he h1 h2 => ?_) (fun b i u s c' h' he hb0 hb1 ho h1 h2 h3 h4 => ?_)
  · exact hQ e 0 none 0 0 0 0 [] h' he (.inl ⟨h1, h2, rfl, rfl, rfl, rfl⟩) (projs_nil _) (by omega)
  · exact hQ 0 i _ n c' u s (serveL l) h' he (.inr ⟨rfl, h1, h2, rfl, h3, h4⟩) (ho.projs' hb1 (by rw [serveL_len]; exact hl)) (by omega)

theorem serveN_is {h : AHeap} (hlow : h.low ≤ h.next) {a : Option Addr} {n c : Nat} (hn : n ≤ 1000000) (hc : n ≤ capLow c) {l : List Proj} (hs : Projs h a n l) (hsh : shortN l) (nu de m : Int) {Q : Value → AHeap → Prop}
    (hQ : ∀ e a' n' c' u s sa k sc L l' h', Ext h h' → ServeIs l nu de m e L l' u s → Projs h' a' n' l' → n' ≤ n → n' ≤ capLow c' → Ints h' .i64 sa k L → k ≤ 1000 → Q (.tuple #[.agg #[.slice a' n' c', .int .i64 u, .int .i64 s], .slice sa k sc, .int .i64 e]) h') :
    call 13 [.agg #[.slice a n c, .int .i64 nu, .int .i64 de], .int .i64 m] h Q := by
  have hl := hs.len
  refine serveN_ok hA hlow hn hc hs hsh nu de m (fun e h' he h1 h2 => ?_) (fun b k sa sc u s h' hz hm hst he hb0 hb1 ho h3 h4 hi => ?_)
  · exact hQ e none 0 0 0 0 none 0 0 [] [] h' he (.inl ⟨h1, h2, rfl, rfl, rfl, rfl⟩) (projs_nil _) (by omega) (by omega) (.nil _ _) (by omega)
  · exact hQ 0 _ n n u s sa k sc (itS l k) (itL l k) h' he (.inr ⟨rfl, hz, hm, k, hst, rfl, rfl, h3, h4⟩) (ho.projs' hb1 (by rw [itL_len]; exact hl)) (by omega) (by unfold capLow slack; omega) hi (by have := hst.2.1; omega)

theorem rserveN_is {h : AHeap} (hlow : h.low ≤ h.next) {a : Option Addr} {n c : Nat} (hn : n ≤ 1000000) {l : List Proj} (hs : Projs h a n l) (hsh : shortN l) (nu de m : Int) {Q : Value → AHeap → Prop}
    (hQ : ∀ e a' n' c' u s sa k sc L l' h', Ext h h' → ServeIs l nu de m e L l' u s → Projs h' a' n' l' → n' ≤ n → Ints h' .i64 sa k L → k ≤ 1000 → Q (.tuple #[.agg #[.slice a' n' c', .int .i64 u, .int .i64 s], .slice sa k sc, .int .i64 e]) h') :
    call 14 [.agg #[.slice a n c, .int .i64 nu, .int .i64 de], .int .i64 m] h Q := by
  have hl := hs.len
  refine rserveN_ok hA hlow hn hs hsh nu de m (fun e h' he h1 h2 => ?_) (fun b c' k sa sc u s h' hz hm hst he hb0 hb1 ho h3 h4 hi => ?_)
  · exact hQ e none 0 0 0 0 none 0 0 [] [] h' he (.inl ⟨h1, h2, rfl, rfl, rfl, rfl⟩) (projs_nil _) (by omega) (.nil _ _) (by omega)
  · exact hQ 0 _ n c' u s sa k sc (itS l k) (itL l k) h' he (.inr ⟨rfl, hz, hm, k, hst, rfl, rfl, h3, h4⟩) (ho.projs' hb1 (by rw [itL_len]; exact hl)) (by omega) hi (by have := hst.2.1; omega)


theorem serves_ok {h : AHeap} (hlow : h.low ≤ h.next) {a : Option Addr} {n c : Nat} (hn : n ≤ 9223372036854775807) (hc : n ≤ capLow c) {l : List Proj} (hs : Projs h a n l) (nu de m : Int) {Q : Value → AHeap → Prop} (hQ : ∀ h', Ext h h' → Q (.bool true) h') : call 3 [.agg #[.slice a n c, .int .i64 nu, .int .i64 de], .int .i64 m] h Q := by
  have hl := hs.len
  refine hA.bodyR Try.func3 r3_ok (show prims _ _ _ = none from rfl) hlow ?_; (try (conv => cbv)); repeat (refine brk_ok hA ?_; (try (conv => cbv)))
  refine great_ok hA hlow hn hs nu de ⟨_, rfl, ?_⟩ (fun hp => ⟨_, rfl, ?_⟩)
  · ((try (conv => cbv)); repeat (refine brk_ok hA ?_; (try (conv => cbv))))
    exact hQ _ (.refl _)
  ((try (conv => cbv)); repeat (refine brk_ok hA ?_; (try (conv => cbv))))
  have hsh : shortN l := fun p hp' => by have := hp.1 p hp'; omega
  have h20 := hp.2
  refine br (100 < m) (e_gtr hA _ _) (fun c1 => ?_) (fun c1 => ?_) <;> (try (conv => cbv)) <;> repeat (refine brk_ok hA ?_; (try (conv => cbv)))
  · refine br (m ≤ 1000) (e_leq hA _ _) (fun c2 => ?_) (fun c2 => ?_) <;> (try (conv => cbv)) <;> repeat (refine brk_ok hA ?_; (try (conv => cbv)))
    · exact hQ _ (.refl _)
    refine nextQ_is hA hlow (by omega) hc hs hsh nu de (fun e1 i1 a1 n1 c1 u1 s1 l1 h1 x1 y1 z1 m1 _ _ _ => ⟨_, _, _, _, _, _, _, rfl, ?_⟩)
    ((try (conv => cbv)); repeat (refine brk_ok hA ?_; (try (conv => cbv))))
    refine rnext_is hA (x1.lowOK hlow) (by omega) (hs.ext x1) hsh nu de (fun e2 i2 a2 n2 c2 u2 s2 l2 h2 x2 y2 z2 m2 => ⟨_, _, _, _, _, _, _, rfl, ?_⟩)
    ((try (conv => cbv)); repeat (refine brk_ok hA ?_; (try (conv => cbv))))
    have x12 := x1.trans x2
    refine serveN_is hA (x12.lowOK hlow) (by omega) hc (hs.ext x12) hsh nu de m (fun e3 a3 n3 c3 u3 s3 sa3 k3 sc3 L3 l3 h3 x3 y3 z3 m3 _ w3 v3 => ⟨_, _, _, _, _, _, _, _, _, rfl, ?_⟩)
    ((try (conv => cbv)); repeat (refine brk_ok hA ?_; (try (conv => cbv))))
    have x13 := x12.trans x3
    refine rserveN_is hA (x13.lowOK hlow) (by omega) (hs.ext x13) hsh nu de m (fun e4 a4 n4 c4 u4 s4 sa4 k4 sc4 L4 l4 h4 x4 y4 z4 m4 w4 v4 => ⟨_, _, _, _, _, _, _, _, _, rfl, ?_⟩)
    ((try (conv => cbv)); repeat (refine brk_ok hA ?_; (try (conv => cbv))))
    have x14 := x13.trans x4
    obtain ⟨rfl, rfl, rfl, rfl, rfl⟩ := y1.unique y2
    obtain ⟨rfl, rfl, rfl, rfl, rfl⟩ := y3.unique y4
    refine same_ok hA (x14.lowOK hlow) (by omega) (z1.ext (x2.trans (x3.trans x4))) (z2.ext (x3.trans x4)) _ _ _ _ (fun r5 h5 x5 hr5 => ⟨_, rfl, ?_⟩)
    have q5 : r5 = true := hr5.2 ⟨rfl, rfl, rfl⟩
    subst q5
    ((try (conv => cbv)); repeat (refine brk_ok hA ?_; (try (conv => cbv))))
    refine br (i2 = i2) (e_eql hA _ _) (fun d1 => ?_) (fun d1 => absurd rfl d1) <;> (try (conv => cbv)) <;> repeat (refine brk_ok hA ?_; (try (conv => cbv)))
    refine br (e2 = e2) (e_eql hA _ _) (fun d2 => ?_) (fun d2 => absurd rfl d2) <;> (try (conv => cbv)) <;> repeat (refine brk_ok hA ?_; (try (conv => cbv)))
    have x15 := x14.trans x5
    refine same_ok hA (x15.lowOK hlow) (by omega) (z3.ext (x4.trans x5)) (z4.ext x5) _ _ _ _ (fun r6 h6 x6 hr6 => ⟨_, rfl, ?_⟩)
    have q6 : r6 = true := hr6.2 ⟨rfl, rfl, rfl⟩
    subst q6
    ((try (conv => cbv)); repeat (refine brk_ok hA ?_; (try (conv => cbv))))
    have x16 := x15.trans x6
    refine sameInts_ok hA (x16.lowOK hlow) (by omega) (w3.ext (x4.trans (x5.trans x6))) (w4.ext (x5.trans x6)) (fun r7 h7 x7 hr7 => ⟨_, rfl, ?_⟩)
    have q7 : r7 = true := hr7.2 rfl
    subst q7
    ((try (conv => cbv)); repeat (refine brk_ok hA ?_; (try (conv => cbv))))
    have hfin : cmp .eql e4 e4 = true := by rw [e_eql hA]; simp
    rw [hfin]
    exact hQ _ (x16.trans x7)
  · refine nextQ_is hA hlow (by omega) hc hs hsh nu de (fun e1 i1 a1 n1 c1 u1 s1 l1 h1 x1 y1 z1 m1 _ _ _ => ⟨_, _, _, _, _, _, _, rfl, ?_⟩)
    ((try (conv => cbv)); repeat (refine brk_ok hA ?_; (try (conv => cbv))))
    refine rnext_is hA (x1.lowOK hlow) (by omega) (hs.ext x1) hsh nu de (fun e2 i2 a2 n2 c2 u2 s2 l2 h2 x2 y2 z2 m2 => ⟨_, _, _, _, _, _, _, rfl, ?_⟩)
    ((try (conv => cbv)); repeat (refine brk_ok hA ?_; (try (conv => cbv))))
    have x12 := x1.trans x2
    refine serveN_is hA (x12.lowOK hlow) (by omega) hc (hs.ext x12) hsh nu de m (fun e3 a3 n3 c3 u3 s3 sa3 k3 sc3 L3 l3 h3 x3 y3 z3 m3 _ w3 v3 => ⟨_, _, _, _, _, _, _, _, _, rfl, ?_⟩)
    ((try (conv => cbv)); repeat (refine brk_ok hA ?_; (try (conv => cbv))))
    have x13 := x12.trans x3
    refine rserveN_is hA (x13.lowOK hlow) (by omega) (hs.ext x13) hsh nu de m (fun e4 a4 n4 c4 u4 s4 sa4 k4 sc4 L4 l4 h4 x4 y4 z4 m4 w4 v4 => ⟨_, _, _, _, _, _, _, _, _, rfl, ?_⟩)
    ((try (conv => cbv)); repeat (refine brk_ok hA ?_; (try (conv => cbv))))
    have x14 := x13.trans x4
    obtain ⟨rfl, rfl, rfl, rfl, rfl⟩ := y1.unique y2
    obtain ⟨rfl, rfl, rfl, rfl, rfl⟩ := y3.unique y4
    refine same_ok hA (x14.lowOK hlow) (by omega) (z1.ext (x2.trans (x3.trans x4))) (z2.ext (x3.trans x4)) _ _ _ _ (fun r5 h5 x5 hr5 => ⟨_, rfl, ?_⟩)
    have q5 : r5 = true := hr5.2 ⟨rfl, rfl, rfl⟩
    subst q5
    ((try (conv => cbv)); repeat (refine brk_ok hA ?_; (try (conv => cbv))))
    refine br (i2 = i2) (e_eql hA _ _) (fun d1 => ?_) (fun d1 => absurd rfl d1) <;> (try (conv => cbv)) <;> repeat (refine brk_ok hA ?_; (try (conv => cbv)))
    refine br (e2 = e2) (e_eql hA _ _) (fun d2 => ?_) (fun d2 => absurd rfl d2) <;> (try (conv => cbv)) <;> repeat (refine brk_ok hA ?_; (try (conv => cbv)))
    have x15 := x14.trans x5
    refine same_ok hA (x15.lowOK hlow) (by omega) (z3.ext (x4.trans x5)) (z4.ext x5) _ _ _ _ (fun r6 h6 x6 hr6 => ⟨_, rfl, ?_⟩)
    have q6 : r6 = true := hr6.2 ⟨rfl, rfl, rfl⟩
    subst q6
    ((try (conv => cbv)); repeat (refine brk_ok hA ?_; (try (conv => cbv))))
    have x16 := x15.trans x6
    refine sameInts_ok hA (x16.lowOK hlow) (by omega) (w3.ext (x4.trans (x5.trans x6))) (w4.ext (x5.trans x6)) (fun r7 h7 x7 hr7 => ⟨_, rfl, ?_⟩)
    have q7 : r7 = true := hr7.2 rfl
    subst q7
    ((try (conv => cbv)); repeat (refine brk_ok hA ?_; (try (conv => cbv))))
    have hfin : cmp .eql e4 e4 = true := by rw [e_eql hA]; simp
    rw [hfin]
    exact hQ _ (x16.trans x7)

end Go.Proofs.Ytlpnmdknlfmjaaa
