/-
  fringelaw42.QueueTells in the abstract machine: true.
-/
import Derived.Test.YtlpnmdknlfmjaaaQNew
namespace Go.Proofs.Ytlpnmdknlfmjaaa
open Go.Sim
set_option linter.unusedVariables false
set_option maxRecDepth 100000

/-- A queue that a function returns beside an error: none, or one of its own. -/
def OwnQ (h h' : AHeap) (a' : Option Addr) (n' : Nat) (l' : List Proj) : Prop := Projs h' a' n' l' ∧ ∀ ad, a' = some ad → h.next ≤ ad.block ∧ ad.off = 0 ∧ Own h' ad.block 4 (flatP l')

/-- What a function returns: an error alone; or a queue. -/
def Gives (E : Int) (L : List Proj) (U S : Int) (e : Int) (l' : List Proj) (u s : Int) : Prop := (e = E ∧ e ≠ 0 ∧ l' = [] ∧ u = 0 ∧ s = 0) ∨ (e = 0 ∧ E = 0 ∧ l' = L ∧ u = U ∧ s = S)
theorem Gives.unique {E U S e u s e2 u2 s2 : Int} {L l' l2 : List Proj} (h : Gives E L U S e l' u s) (h2 : Gives E L U S e2 l2 u2 s2) : e2 = e ∧ l2 = l' ∧ u2 = u ∧ s2 = s := by
  rcases h with ⟨a1, a2, a3, a4, a5⟩ | ⟨a1, a2, a3, a4, a5⟩ <;> rcases h2 with ⟨b1, b2, b3, b4, b5⟩ | ⟨b1, b2, b3, b4, b5⟩
  · subst a3 b3; exact ⟨by omega, rfl, by omega, by omega⟩
  · omega
  · omega
  · subst a3 b3; exact ⟨by omega, rfl, by omega, by omega⟩

theorem ownQ_none (h h' : AHeap) : OwnQ h h' none 0 [] := ⟨projs_nil _, fun ad h => by cases h⟩
theorem ownQ_some {h h' : AHeap} {b n : Nat} {l : List Proj} (h0 : h.next ≤ b) (h1 : b < h'.next) (ho : Own h' b 4 (flatP l)) (hl : l.length = n) : OwnQ h h' (some ⟨b, 0, none⟩) n l := ⟨ho.projs' h1 hl, fun ad had => by cases had; exact ⟨h0, rfl, ho⟩⟩

variable {call : FuncId → List Value → AHeap → (Value → AHeap → Prop) → Prop}
  {head : FuncId → Nat → Nat → SS → (Exit → SS → Prop) → Prop}
  {arith : BinOp → IntKind → Int → Int → Int}
  {cmp : BinOp → Int → Int → Bool}
  {scmp : BinOp → ByteArray → ByteArray → Bool}
  {bnot : Bool → Bool}
  {bsame : Bool → Bool → Bool}
  {conv : IntKind → Int → Int}
  {neg : IntKind → Int → Int}
  {imax : Int → Int → Int}
  {imin : Int → Int → Int}
  {ofNat : Nat → Int}
  {slen : ByteArray → Int}
  {place : Nat → Int → Nat → Nat}
  {inR : Int → Nat → Prop}
  {nz : Int → Prop}
  {geZ : Int → Prop}
  {rd : AHeap → Nat → Nat → Nat → List Value → Prop}
  {wr : AHeap → Nat → Nat → List Value → AHeap → Prop}
  {push : AHeap → Nat → List Value → AHeap}
  {next : AHeap → Nat}
  {mkOK : Int → Int → Prop}
  {nat : Int → Nat}
  {zeros : List Value → Int → List Value}
  {sadd : ByteArray → ByteArray → (ByteArray → Prop) → Prop}
  {eqAgg : TypeId → Array Value → Array Value → (Bool → Prop) → Prop}
  {cut : Nat → Int → Prop}
  {slc : TypeId → Value → Option Value → Option Value → Option Value → (Option Addr → Nat → Nat → Prop) → Prop}
  {sslc : TypeId → ByteArray → Option Value → Option Value → (ByteArray → Prop) → Prop}
  {strAt : ByteArray → Int → (Int → Prop) → Prop}
  {part : TypeId → Array Value → Nat → Value → Prop}
  {app : List TypeId → List Value → AHeap → (Option Addr → Nat → Nat → AHeap → Prop) → Prop}
  {cpy : List TypeId → List Value → AHeap → (Int → AHeap → Prop) → Prop}
  {putAt : AHeap → Nat → Nat → List Value → AHeap}
  {fresh : AHeap → AHeap}
  {lowered : AHeap → AHeap → AHeap}
  {bump : AHeap → Nat → AHeap}
  {wrote : AHeap → AHeap → Bool}
  {addN : Nat → Nat → Nat}
  {lt : Nat → Nat → Prop}
  {ne : Nat → Nat → Prop}
  {fpAll : Bool → Bool → Bool → Nat → Nat → Prop}
  {brk : (Unit → Prop) → Prop}
  (hA : AOK progU hint prims ⟨call, head, arith, cmp, scmp, bnot, bsame, conv, neg, imax, imin, ofNat, slen, place, inR, nz, geZ, rd, wr, push, next, mkOK, nat, zeros, sadd, eqAgg, cut, slc, sslc, strAt, part, app, cpy, putAt, fresh, lowered, bump, wrote, addN, lt, ne, fpAll, brk⟩)
include hA

theorem ask_is {h : AHeap} (hlow : h.low ≤ h.next) {a : Option Addr} {n c : Nat} (hn : n ≤ 1000000) (hc : n ≤ capLow c) {l : List Proj} (hs : Projs h a n l) (hsh : shortN l) (nu de : Int) (nm : ByteArray) (k : Int) {Q : Value → AHeap → Prop}
    (hQ : ∀ e a' n' c' u s l' h', Ext h h' → Gives (askE l nu de nm k) (setP l (findF l nm) (askP nu de (pj l (findF l nm)) k)) nu de e l' u s → OwnQ h h' a' n' l' → n' ≤ n → Q (.tuple #[.agg #[.slice a' n' c', .int .i64 u, .int .i64 s], .int .i64 e]) h') :
    call 20 [.agg #[.slice a n c, .int .i64 nu, .int .i64 de], .string nm, .int .i64 k] h Q := by
  have hl := hs.len
  refine ask_ok hA hlow hn hc hs hsh nu de nm k (fun e h' he h1 h2 => ?_) (fun b c' h' he hb0 hb1 ho h1 _ => ?_)
  · exact hQ e none 0 0 0 0 [] h' he (.inl ⟨h1, h2, rfl, rfl, rfl⟩) (ownQ_none _ _) (by omega)
  · exact hQ 0 _ n c' nu de _ h' he (.inr ⟨rfl, h1, rfl, rfl, rfl⟩) (ownQ_some hb0 hb1 ho (by rw [setP_len]; exact hl)) (by omega)

theorem rask_is {h : AHeap} (hlow : h.low ≤ h.next) {a : Option Addr} {n c : Nat} (hn : n ≤ 1000000) {l : List Proj} (hs : Projs h a n l) (hsh : shortN l) (nu de : Int) (nm : ByteArray) (k : Int) {Q : Value → AHeap → Prop}
    (hQ : ∀ e a' n' c' u s l' h', Ext h h' → Gives (askE l nu de nm k) (setP l (findF l nm) (askP nu de (pj l (findF l nm)) k)) nu de e l' u s → OwnQ h h' a' n' l' → n' ≤ n → Q (.tuple #[.agg #[.slice a' n' c', .int .i64 u, .int .i64 s], .int .i64 e]) h') :
    call 21 [.agg #[.slice a n c, .int .i64 nu, .int .i64 de], .string nm, .int .i64 k] h Q := by
  have hl := hs.len
  refine rask_ok hA hlow hn hs hsh nu de nm k (fun e h' he h1 h2 => ?_) (fun b c' h' he hb0 hb1 ho h1 => ?_)
  · exact hQ e none 0 0 0 0 [] h' he (.inl ⟨h1, h2, rfl, rfl, rfl⟩) (ownQ_none _ _) (by omega)
  · exact hQ 0 _ n c' nu de _ h' he (.inr ⟨rfl, h1, rfl, rfl, rfl⟩) (ownQ_some hb0 hb1 ho (by rw [setP_len]; exact hl)) (by omega)

theorem drop_is {h : AHeap} (hlow : h.low ≤ h.next) {a : Option Addr} {n c : Nat} (hn : n ≤ 1000000) (hc : n ≤ capLow c) {l : List Proj} (hs : Projs h a n l) (hsh : shortN l) (nu de : Int) (nm : ByteArray) {Q : Value → AHeap → Prop}
    (hQ : ∀ e a' n' c' u s l' h', Ext h h' → Gives (dropE l nu de nm) (setP l (findF l nm) (dropP (pj l (findF l nm)))) nu de e l' u s → OwnQ h h' a' n' l' → n' ≤ n → Q (.tuple #[.agg #[.slice a' n' c', .int .i64 u, .int .i64 s], .int .i64 e]) h') :
    call 22 [.agg #[.slice a n c, .int .i64 nu, .int .i64 de], .string nm] h Q := by
  have hl := hs.len
  refine drop_ok hA hlow hn hc hs hsh nu de nm (fun e h' he h1 h2 => ?_) (fun b c' h' he hb0 hb1 ho h1 _ => ?_)
  · exact hQ e none 0 0 0 0 [] h' he (.inl ⟨h1, h2, rfl, rfl, rfl⟩) (ownQ_none _ _) (by omega)
  · exact hQ 0 _ n c' nu de _ h' he (.inr ⟨rfl, h1, rfl, rfl, rfl⟩) (ownQ_some hb0 hb1 ho (by rw [setP_len]; exact hl)) (by omega)

theorem rdrop_is {h : AHeap} (hlow : h.low ≤ h.next) {a : Option Addr} {n c : Nat} (hn : n ≤ 1000000) {l : List Proj} (hs : Projs h a n l) (hsh : shortN l) (nu de : Int) (nm : ByteArray) {Q : Value → AHeap → Prop}
    (hQ : ∀ e a' n' c' u s l' h', Ext h h' → Gives (dropE l nu de nm) (setP l (findF l nm) (dropP (pj l (findF l nm)))) nu de e l' u s → OwnQ h h' a' n' l' → n' ≤ n → Q (.tuple #[.agg #[.slice a' n' c', .int .i64 u, .int .i64 s], .int .i64 e]) h') :
    call 23 [.agg #[.slice a n c, .int .i64 nu, .int .i64 de], .string nm] h Q := by
  have hl := hs.len
  refine rdrop_ok hA hlow hn hs hsh nu de nm (fun e h' he h1 h2 => ?_) (fun b c' h' he hb0 hb1 ho h1 => ?_)
  · exact hQ e none 0 0 0 0 [] h' he (.inl ⟨h1, h2, rfl, rfl, rfl⟩) (ownQ_none _ _) (by omega)
  · exact hQ 0 _ n c' nu de _ h' he (.inr ⟨rfl, h1, rfl, rfl, rfl⟩) (ownQ_some hb0 hb1 ho (by rw [setP_len]; exact hl)) (by omega)

theorem new_is {h : AHeap} (hlow : h.low ≤ h.next) {a : Option Addr} {n c : Nat} (hn : n ≤ 1000000) {l : List Proj} (hs : Projs h a n l) (hsh : shortN l) {Q : Value → AHeap → Prop}
    (hQ : ∀ e a' n' c' u s l' h', Ext h h' → Gives (newE l) (newL l) 0 1 e l' u s → Projs h' a' n' l' → n' ≤ n → Q (.tuple #[.agg #[.slice a' n' c', .int .i64 u, .int .i64 s], .int .i64 e]) h') :
    call 18 [.slice a n c] h Q := by
  refine new_ok hA hlow hn hs hsh (fun e h' he h1 h2 => ?_) (fun a' c' h' he hf hp h1 => ?_)
  · exact hQ e none 0 0 0 0 [] h' he (.inl ⟨h1, h2, rfl, rfl, rfl⟩) (projs_nil _) (by omega)
  · exact hQ 0 a' n c' 0 1 _ h' he (.inr ⟨rfl, h1, rfl, rfl, rfl⟩) hp (by omega)

theorem rnew_is {h : AHeap} (hlow : h.low ≤ h.next) {a : Option Addr} {n c : Nat} (hn : n ≤ 1000) {l : List Proj} (hs : Projs h a n l) (hsh : shortN l) {Q : Value → AHeap → Prop}
    (hQ : ∀ e a' n' c' u s l' h', Ext h h' → Gives (newE l) (newL l) 0 1 e l' u s → Projs h' a' n' l' → n' ≤ n → Q (.tuple #[.agg #[.slice a' n' c', .int .i64 u, .int .i64 s], .int .i64 e]) h') :
    call 19 [.slice a n c] h Q := by
  refine rnew_ok hA hlow hn hs hsh (fun e h' he h1 h2 => ?_) (fun a' c' h' he hf hp h1 => ?_)
  · exact hQ e none 0 0 0 0 [] h' he (.inl ⟨h1, h2, rfl, rfl, rfl⟩) (projs_nil _) (by omega)
  · exact hQ 0 a' n c' 0 1 _ h' he (.inr ⟨rfl, h1, rfl, rfl, rfl⟩) hp (by omega)


theorem wipe_loop {hb : AHeap} {a : Option Addr} {n c : Nat} (hn : n ≤ 1000000) {u s : Int} {v0 v1 v1' v2 v2' v3 v3' v4' v5 v5' v6 v6' v7 v7' : List Value} {Q : Exit → SS → Prop}
    (h0 : ∀ h', Ext hb h' → Q (.exit 0) ⟨[(4, .pointer (some ⟨0, 0, some 0⟩)), (9, .pointer (some ⟨1, 0, some 0⟩))], 56, [(7, v7), (7, v7'), (6, v6), (6, v6'), (5, v5), (5, v5'), (4, [.slice a n c, .int .i64 u, .int .i64 s]), (4, v4'), (3, v3), (3, v3'), (2, v2), (2, v2'), (1, v1), (1, v1'), (0, v0)], h'⟩) :
    ∀ (i : Int), 0 ≤ i → i ≤ n → ∀ h' L, Ext hb h' → List.length L = n → (∀ ad, a = some ad → hb.next ≤ ad.block ∧ ad.off = 0 ∧ ad.spot = none ∧ Own h' ad.block 4 (flatP L)) → (a = none → n = 0) →
      head 4 15 56 ⟨[(4, .pointer (some ⟨0, 0, some 0⟩)), (9, .pointer (some ⟨1, 0, some 0⟩)), (14, .pointer (some ⟨4, 0, some 0⟩)), (26, .int .i64 i)], 56, [(7, v7), (7, v7'), (6, v6), (6, v6'), (5, v5), (5, v5'), (4, [.slice a n c, .int .i64 u, .int .i64 s]), (4, v4'), (3, v3), (3, v3'), (2, v2), (2, v2'), (1, v1), (1, v1'), (0, v0)], h'⟩ Q := by
  refine countUp (fun i hi0 hin ih h' L he hL ho hz => ?_)
  refine hA.roundR Try.func4 r4_ok ?_; (try (conv => cbv)); repeat (refine brk_ok hA ?_; (try (conv => cbv)))
  refine br (i < n) (by rw [e_lss hA, e_ofNat hA]) (fun c1 => ?_) (fun c1 => ?_) <;> (try (conv => cbv)) <;> repeat (refine brk_ok hA ?_; (try (conv => cbv)))
  · cases a with
    | none => have := hz rfl; omega
    | some ad =>
      obtain ⟨b, o, sp⟩ := ad
      obtain ⟨k1, k2, k3, k4⟩ := ho _ rfl
      simp only at k1 k2 k3 k4
      subst k2 k3
      obtain ⟨⟨nm, sh, us, wt⟩, hp⟩ : ∃ p, pj L i = p := ⟨_, rfl⟩
      obtain ⟨h3, w3, op3, wr3⟩ := own_put k4 hi0 (by omega) hp ⟨⟨#[]⟩, sh, us, wt⟩ 0 [.string ⟨#[]⟩] (by simp) rfl
      refine ⟨b, 0, rfl, in_ok hA hi0 c1, ?_⟩
      ((try (conv => cbv)); repeat (refine brk_ok hA ?_; (try (conv => cbv))))
      refine ⟨h3, wr_fld hA w3, ?_⟩
      ((try (conv => cbv)); repeat (refine brk_ok hA ?_; (try (conv => cbv))))
      rw [add64 hA (by omega) (by omega)]
      exact ih c1 h3 (setP L i ⟨⟨#[]⟩, sh, us, wt⟩) (wr3.ext he k1) (by rw [setP_len]; exact hL) (fun ad had => by cases had; exact ⟨k1, rfl, rfl, op3⟩) (fun h => by cases h)
  · exact h0 h' he

theorem tells_ok {h : AHeap} (hlow : h.low ≤ h.next) {a : Option Addr} {n c : Nat} (hn : n ≤ 9223372036854775807) (hc : n ≤ capLow c) {l : List Proj} (hs : Projs h a n l) (nu de : Int) (nm : ByteArray) (k i : Int) {Q : Value → AHeap → Prop} (hQ : ∀ h', Ext h h' → Q (.bool true) h') : call 4 [.agg #[.slice a n c, .int .i64 nu, .int .i64 de], .string nm, .int .i64 k, .int .i64 i] h Q := by
  have hl := hs.len
  have bt := e_bnot hA true
  refine hA.bodyR Try.func4 r4_ok (show prims _ _ _ = none from rfl) hlow ?_; (try (conv => cbv)); repeat (refine brk_ok hA ?_; (try (conv => cbv)))
  refine great_ok hA hlow hn hs nu de ⟨_, rfl, ?_⟩ (fun hp => ⟨_, rfl, ?_⟩)
  · ((try (conv => cbv)); repeat (refine brk_ok hA ?_; (try (conv => cbv))))
    exact hQ _ (.refl _)
  ((try (conv => cbv)); repeat (refine brk_ok hA ?_; (try (conv => cbv))))
  have hsh : shortN l := fun p hp' => by have := hp.1 p hp'; omega
  have h20 := hp.2
  refine br (100 < (nm.size : Int)) (by rw [e_gtr hA, e_slen hA]) (fun c1 => ?_) (fun c1 => ?_) <;> (try (conv => cbv)) <;> repeat (refine brk_ok hA ?_; (try (conv => cbv)))
  · exact hQ _ (.refl _)
  refine twin_ok hA hlow (by omega) hs nu de (fun b0 c0 h0 x0 q0 r0 o0 => ⟨_, _, _, _, _, rfl, ?_⟩)
  ((try (conv => cbv)); repeat (refine brk_ok hA ?_; (try (conv => cbv))))
  have z0 := o0.projs' r0 hl
  refine new_is hA (x0.lowOK hlow) (by omega) (hs.ext x0) hsh (fun e1 a1 n1 c1 u1 s1 l1 h1 x1 y1 z1 m1 => ⟨_, _, _, _, _, _, rfl, ?_⟩)
  ((try (conv => cbv)); repeat (refine brk_ok hA ?_; (try (conv => cbv))))
  have t1 := x0.trans x1
  refine rnew_is hA (t1.lowOK hlow) (by omega) (hs.ext t1) hsh (fun e2 a2 n2 c2 u2 s2 l2 h2 x2 y2 z2 m2 => ⟨_, _, _, _, _, _, rfl, ?_⟩)
  ((try (conv => cbv)); repeat (refine brk_ok hA ?_; (try (conv => cbv))))
  have t2 := t1.trans x2
  refine ask_is hA (t2.lowOK hlow) (by omega) hc (hs.ext t2) hsh nu de nm k (fun e3 a3 n3 c3 u3 s3 l3 h3 x3 y3 z3 m3 => ⟨_, _, _, _, _, _, rfl, ?_⟩)
  ((try (conv => cbv)); repeat (refine brk_ok hA ?_; (try (conv => cbv))))
  have t3 := t2.trans x3
  refine rask_is hA (t3.lowOK hlow) (by omega) (hs.ext t3) hsh nu de nm k (fun e4 a4 n4 c4 u4 s4 l4 h4 x4 y4 z4 m4 => ⟨_, _, _, _, _, _, rfl, ?_⟩)
  ((try (conv => cbv)); repeat (refine brk_ok hA ?_; (try (conv => cbv))))
  have t4 := t3.trans x4
  refine drop_is hA (t4.lowOK hlow) (by omega) hc (hs.ext t4) hsh nu de nm (fun e5 a5 n5 c5 u5 s5 l5 h5 x5 y5 z5 m5 => ⟨_, _, _, _, _, _, rfl, ?_⟩)
  ((try (conv => cbv)); repeat (refine brk_ok hA ?_; (try (conv => cbv))))
  have t5 := t4.trans x5
  refine rdrop_is hA (t5.lowOK hlow) (by omega) (hs.ext t5) hsh nu de nm (fun e6 a6 n6 c6 u6 s6 l6 h6 x6 y6 z6 m6 => ⟨_, _, _, _, _, _, rfl, ?_⟩)
  ((try (conv => cbv)); repeat (refine brk_ok hA ?_; (try (conv => cbv))))
  have t6 := t5.trans x6
  refine bound_ok hA (t6.lowOK hlow) (by omega) hc (hs.ext t6) hsh nu de i (fun r7 e7 h7 x7 y7 z7 => ⟨_, _, rfl, ?_⟩)
  ((try (conv => cbv)); repeat (refine brk_ok hA ?_; (try (conv => cbv))))
  have t7 := t6.trans x7
  refine rbound_ok hA (t7.lowOK hlow) (by omega) (hs.ext t7) hsh nu de i (fun r8 e8 h8 x8 y8 z8 => ⟨_, _, rfl, ?_⟩)
  ((try (conv => cbv)); repeat (refine brk_ok hA ?_; (try (conv => cbv))))
  have t8 := t7.trans x8
  have hl8 := t8.lowOK hlow
  obtain ⟨rfl, rfl, rfl, rfl⟩ := y1.unique y2
  obtain ⟨rfl, rfl, rfl, rfl⟩ := y3.unique y4
  obtain ⟨rfl, rfl, rfl, rfl⟩ := y5.unique y6
  have w1 := z1.ext (x2.trans (x3.trans (x4.trans (x5.trans (x6.trans (x7.trans x8))))))
  have w2 := z2.ext (x3.trans (x4.trans (x5.trans (x6.trans (x7.trans x8)))))
  have w3 := z3.1.ext (x4.trans (x5.trans (x6.trans (x7.trans x8))))
  have w4 := z4.1.ext (x5.trans (x6.trans (x7.trans x8)))
  have w5 := z5.1.ext (x6.trans (x7.trans x8))
  have w6 := z6.1.ext (x7.trans x8)
  rw [e_bump hA, e_fresh hA]
  have c8 := Ext.bump h8 48
  generalize h8.bump 48 = X8 at *
  refine check_ok hA (freshed_low _) (by omega) hc ((hs.ext t8).ext (c8.trans (.freshed _))) hsh nu de (fun r9 h9 hr9 hx9 => ⟨_, rfl, ?_⟩)
  ((try (conv => cbv)); repeat (refine brk_ok hA ?_; (try (conv => cbv))))
  have c9 := ((c8.trans (.freshed _)).trans hx9).lowered' c8 hl8
  rw [e_lowered hA, e_fresh hA]
  generalize h9.lowered X8.low = X9 at *
  refine rcheck_ok hA (freshed_low _) (by omega) ((hs.ext t8).ext (c9.trans (.freshed _))) hsh nu de (fun r10 h10 hr10 hx10 => ⟨_, rfl, ?_⟩)
  ((try (conv => cbv)); repeat (refine brk_ok hA ?_; (try (conv => cbv))))
  have c10 := ((c9.trans (.freshed _)).trans hx10).lowered' c9 hl8
  refine br (r9 ≠ r10) (e_neq hA _ _) (fun d1 => absurd (by omega) d1) (fun d1 => ?_) <;> (try (conv => cbv)) <;> repeat (refine brk_ok hA ?_; (try (conv => cbv)))
  rw [e_lowered hA, e_fresh hA]
  generalize h10.lowered X9.low = X10 at *
  refine same_ok hA (freshed_low _) (by omega) (w1.ext (c10.trans (.freshed _))) (w2.ext (c10.trans (.freshed _))) _ _ _ _ (fun r11 h11 hx11 hr11 => ⟨_, rfl, ?_⟩)
  have q11 : r11 = true := hr11.2 ⟨rfl, rfl, rfl⟩
  subst q11
  ((try (conv => cbv)); repeat (refine brk_ok hA ?_; (try (conv => cbv))))
  rw [bt]
  ((try (conv => cbv)); repeat (refine brk_ok hA ?_; (try (conv => cbv))))
  have c11 := ((c10.trans (.freshed _)).trans hx11).lowered' c10 hl8
  refine br (e2 ≠ e2) (e_neq hA _ _) (fun d2 => absurd rfl d2) (fun d2 => ?_) <;> (try (conv => cbv)) <;> repeat (refine brk_ok hA ?_; (try (conv => cbv)))
  rw [e_lowered hA, e_fresh hA]
  generalize h11.lowered X10.low = X11 at *
  refine same_ok hA (freshed_low _) (by omega) (w3.ext (c11.trans (.freshed _))) (w4.ext (c11.trans (.freshed _))) _ _ _ _ (fun r12 h12 hx12 hr12 => ⟨_, rfl, ?_⟩)
  have q12 : r12 = true := hr12.2 ⟨rfl, rfl, rfl⟩
  subst q12
  ((try (conv => cbv)); repeat (refine brk_ok hA ?_; (try (conv => cbv))))
  rw [bt]
  ((try (conv => cbv)); repeat (refine brk_ok hA ?_; (try (conv => cbv))))
  have c12 := ((c11.trans (.freshed _)).trans hx12).lowered' c11 hl8
  refine br (e4 ≠ e4) (e_neq hA _ _) (fun d3 => absurd rfl d3) (fun d3 => ?_) <;> (try (conv => cbv)) <;> repeat (refine brk_ok hA ?_; (try (conv => cbv)))
  rw [e_lowered hA, e_fresh hA]
  generalize h12.lowered X11.low = X12 at *
  refine same_ok hA (freshed_low _) (by omega) (w5.ext (c12.trans (.freshed _))) (w6.ext (c12.trans (.freshed _))) _ _ _ _ (fun r13 h13 hx13 hr13 => ⟨_, rfl, ?_⟩)
  have q13 : r13 = true := hr13.2 ⟨rfl, rfl, rfl⟩
  subst q13
  ((try (conv => cbv)); repeat (refine brk_ok hA ?_; (try (conv => cbv))))
  rw [bt]
  ((try (conv => cbv)); repeat (refine brk_ok hA ?_; (try (conv => cbv))))
  have c13 := ((c12.trans (.freshed _)).trans hx13).lowered' c12 hl8
  refine br (e6 ≠ e6) (e_neq hA _ _) (fun d4 => absurd rfl d4) (fun d4 => ?_) <;> (try (conv => cbv)) <;> repeat (refine brk_ok hA ?_; (try (conv => cbv)))
  refine br (r7 ≠ r8) (e_neq hA _ _) (fun d5 => absurd (by omega) d5) (fun d5 => ?_) <;> (try (conv => cbv)) <;> repeat (refine brk_ok hA ?_; (try (conv => cbv)))
  refine br (e7 ≠ e8) (e_neq hA _ _) (fun d6 => absurd (by omega) d6) (fun d6 => ?_) <;> (try (conv => cbv)) <;> repeat (refine brk_ok hA ?_; (try (conv => cbv)))
  rw [e_lowered hA]
  generalize h13.lowered X12.low = X13 at *
  have e3X : Ext h3 X13 := (x4.trans (x5.trans (x6.trans (x7.trans x8)))).trans c13
  have e2X : Ext h2 X13 := x3.trans e3X
  have hcl := z3.1.cells
  refine wipe_loop hA (hb := h2) (by omega) (fun h14 e14 => ?_) 0 (by omega) (by omega) X13 _ e2X z3.1.len (fun ad had => ?_) (fun had => ?_)
  · ((try (conv => cbv)); repeat (refine brk_ok hA ?_; (try (conv => cbv))))
    have e04 := t2.trans e14
    refine same_ok hA (e04.lowOK hlow) (by omega) (hs.ext e04) (z0.ext (x1.trans (x2.trans e14))) nu de nu de (fun r15 h15 hx15 hr15 => ⟨_, rfl, ?_⟩)
    have q15 : r15 = true := hr15.2 ⟨rfl, rfl, rfl⟩
    subst q15
    ((try (conv => cbv)); repeat (refine brk_ok hA ?_; (try (conv => cbv))))
    exact hQ h15 (e04.trans hx15)
  · obtain ⟨k1, k2, k3⟩ := z3.2 ad had
    subst had
    obtain ⟨k4, k5, _⟩ := hcl
    exact ⟨k1, k2, k4, k3.ext e3X k5⟩
  · subst had
    exact hcl.1

end Go.Proofs.Ytlpnmdknlfmjaaa
