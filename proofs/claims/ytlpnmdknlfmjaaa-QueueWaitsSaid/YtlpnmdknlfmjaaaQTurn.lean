/-
  WHO IS NEXT: queue.next and its closure, fringeref42.Turn; fringeref42.Great, Same, SameInts: what they return.
-/
import Derived.Test.YtlpnmdknlfmjaaaQMem
namespace Go.Proofs.Ytlpnmdknlfmjaaa
open Go.Sim
set_option linter.unusedVariables false
set_option maxRecDepth 100000

def sooner (l : List Proj) (best : Int) (p : Proj) : Prop := best < 0 ∨ (p.used + 1) * (pj l best).share < ((pj l best).used + 1) * p.share
instance (l : List Proj) (best : Int) (p : Proj) : Decidable (sooner l best p) := by unfold sooner; exact inferInstance
def turnStep (l : List Proj) (best i : Int) : Int := if 0 < (pj l i).waiting ∧ sooner l best (pj l i) then i else best
def turnTo (l : List Proj) : Nat → Int
  | 0 => -1
  | n + 1 => turnStep l (turnTo l n) n
def turnF (l : List Proj) : Int := turnTo l l.length
def boundP (p : Proj) : Prop := 1 ≤ p.share ∧ p.share ≤ 100 ∧ 0 ≤ p.used ∧ p.used ≤ 1000000 ∧ 0 ≤ p.waiting ∧ p.waiting ≤ 1000
def bounds (l : List Proj) : Prop := ∀ p ∈ l, boundP p

theorem turnTo_range (l : List Proj) (n : Nat) : -1 ≤ turnTo l n ∧ turnTo l n < n := by
  induction n with
  | zero => simp [turnTo]
  | succ n ih => simp only [turnTo, turnStep]; split <;> omega

theorem turnTo_succ (l : List Proj) {i : Int} (h : 0 ≤ i) : turnTo l (i + 1).toNat = turnStep l (turnTo l i.toNat) i := by
  rw [show (i + 1).toNat = i.toNat + 1 by omega]
  show turnStep l (turnTo l i.toNat) (i.toNat : Nat) = _
  rw [show ((i.toNat : Nat) : Int) = i by omega]

theorem prod_small {a b : Int} (h1 : 0 ≤ a) (h2 : a ≤ 1000001) (h3 : 0 ≤ b) (h4 : b ≤ 1000) : 0 ≤ a * b ∧ a * b ≤ 1000001000 := by
  have := Int.mul_le_mul h2 h4 h3 (by omega)
  have := Int.mul_nonneg h1 h3
  omega

variable {call : FuncId → List Value → AHeap → (Value → AHeap → Prop) → Prop}
  {head : FuncId → Nat → Nat → SS → (Exit → SS → Prop) → Prop}
  {arith : BinOp → IntKind → Int → Int → Int}
  {cmp : BinOp → Int → Int → Bool}
  {scmp : BinOp → ByteArray → ByteArray → Bool}
  {bnot : Bool → Bool}
  {bsame : Bool → Bool → Bool}
  {conv : IntKind → Int → Int}
  {neg : IntKind → Int → Int}
  {imax : Int → Int → Int}
  {imin : Int → Int → Int}
  {ofNat : Nat → Int}
  {slen : ByteArray → Int}
  {place : Nat → Int → Nat → Nat}
  {inR : Int → Nat → Prop}
  {nz : Int → Prop}
  {geZ : Int → Prop}
  {rd : AHeap → Nat → Nat → Nat → List Value → Prop}
  {wr : AHeap → Nat → Nat → List Value → AHeap → Prop}
  {push : AHeap → Nat → List Value → AHeap}
  {next : AHeap → Nat}
  {mkOK : Int → Int → Prop}
  {nat : Int → Nat}
  {zeros : List Value → Int → List Value}
  {sadd : ByteArray → ByteArray → (ByteArray → Prop) → Prop}
  {eqAgg : TypeId → Array Value → Array Value → (Bool → Prop) → Prop}
  {cut : Nat → Int → Prop}
  {slc : TypeId → Value → Option Value → Option Value → Option Value → (Option Addr → Nat → Nat → Prop) → Prop}
  {sslc : TypeId → ByteArray → Option Value → Option Value → (ByteArray → Prop) → Prop}
  {strAt : ByteArray → Int → (Int → Prop) → Prop}
  {part : TypeId → Array Value → Nat → Value → Prop}
  {app : List TypeId → List Value → AHeap → (Option Addr → Nat → Nat → AHeap → Prop) → Prop}
  {cpy : List TypeId → List Value → AHeap → (Int → AHeap → Prop) → Prop}
  {putAt : AHeap → Nat → Nat → List Value → AHeap}
  {fresh : AHeap → AHeap}
  {lowered : AHeap → AHeap → AHeap}
  {bump : AHeap → Nat → AHeap}
  {wrote : AHeap → AHeap → Bool}
  {addN : Nat → Nat → Nat}
  {lt : Nat → Nat → Prop}
  {ne : Nat → Nat → Prop}
  {fpAll : Bool → Bool → Bool → Nat → Nat → Prop}
  {brk : (Unit → Prop) → Prop}
  (hA : AOK progU hint prims ⟨call, head, arith, cmp, scmp, bnot, bsame, conv, neg, imax, imin, ofNat, slen, place, inR, nz, geZ, rd, wr, push, next, mkOK, nat, zeros, sadd, eqAgg, cut, slc, sslc, strAt, part, app, cpy, putAt, fresh, lowered, bump, wrote, addN, lt, ne, fpAll, brk⟩)
include hA

theorem sooner_ok {h : AHeap} (hlow : h.low ≤ h.next) {a : Option Addr} {n c : Nat} {l : List Proj} (hs : Projs h a n l) (hb : bounds l) {bb lb : Nat} {best : Int} (ho1 : Own h bb 1 [.int .i64 best]) (ho2 : Own h lb 1 [.slice a n c]) (p : Proj) (hp : boundP p) (hbest : best < n) {Q : Value → AHeap → Prop}
    (hQ : ∀ r h', Ext h h' → r = decide (sooner l best p) → Q (.bool r) h') : call 41 [.agg #[.string p.name, .int .i64 p.share, .int .i64 p.used, .int .i64 p.waiting], .pointer (some ⟨bb, 0, none⟩), .pointer (some ⟨lb, 0, none⟩)] h Q := by
  have hl := hs.len
  obtain ⟨nm, sh, us, wt⟩ := p
  obtain ⟨p1, p2, p3, p4, p5, p6⟩ := hp
  simp only at p1 p2 p3 p4 p5 p6 ⊢
  refine hA.bodyR Try.func41 r41_ok (show prims _ _ _ = none from rfl) hlow ?_; (try (conv => cbv)); repeat (refine brk_ok hA ?_; (try (conv => cbv)))
  have eb : Ext h (bump h 24) := by rw [e_bump hA]; exact .bump _ _
  have r1 := rd_at hA (h := bump h 24) (b := bb) (o := 0) (m := 1) (l := [.int .i64 best]) (by rw [e_bump hA]; exact ho1.readG (by simp))
  have r2 := rd_at hA (h := bump h 24) (b := lb) (o := 0) (m := 1) (l := [.slice a n c]) (by rw [e_bump hA]; exact ho2.readG (by simp))
  refine ⟨best, r1, ?_⟩
  ((try (conv => cbv)); repeat (refine brk_ok hA ?_; (try (conv => cbv))))
  refine br (best < 0) (e_lss hA _ _) (fun c1 => ?_) (fun c1 => ?_) <;> (try (conv => cbv)) <;> repeat (refine brk_ok hA ?_; (try (conv => cbv)))
  · exact hQ true _ eb (by simp [sooner, c1])
  obtain ⟨b, o, nm1, sh1, us1, wt1, rfl, hb1, hp1, hr, f0, f1, f2, f3⟩ := hs.at (i := best) (by omega) hbest
  have hbd := hb _ (pj_mem l (by omega) (by omega : best < l.length))
  rw [hp1] at hbd
  obtain ⟨q1, q2, q3, q4, q5, q6⟩ := hbd
  simp only at q1 q2 q3 q4 q5 q6
  have m1 := prod_small (a := us + 1) (b := sh1) (by omega) (by omega) (by omega) (by omega)
  have m2 := prod_small (a := us1 + 1) (b := sh) (by omega) (by omega) (by omega) (by omega)
  refine ⟨_, _, _, r2, ?_⟩
  ((try (conv => cbv)); repeat (refine brk_ok hA ?_; (try (conv => cbv))))
  refine ⟨_, r1, ?_⟩
  ((try (conv => cbv)); repeat (refine brk_ok hA ?_; (try (conv => cbv))))
  refine ⟨b, o, rfl, in_ok hA (by omega) hbest, ?_⟩
  ((try (conv => cbv)); repeat (refine brk_ok hA ?_; (try (conv => cbv))))
  refine ⟨sh1, rd_fld hA (by rw [e_bump hA]; exact f1), ?_⟩
  ((try (conv => cbv)); repeat (refine brk_ok hA ?_; (try (conv => cbv))))
  refine ⟨_, _, _, r2, ?_⟩
  ((try (conv => cbv)); repeat (refine brk_ok hA ?_; (try (conv => cbv))))
  refine ⟨_, r1, ?_⟩
  ((try (conv => cbv)); repeat (refine brk_ok hA ?_; (try (conv => cbv))))
  refine ⟨b, o, rfl, in_ok hA (by omega) hbest, ?_⟩
  ((try (conv => cbv)); repeat (refine brk_ok hA ?_; (try (conv => cbv))))
  refine ⟨us1, rd_fld hA (by rw [e_bump hA]; exact f2), ?_⟩
  ((try (conv => cbv)); repeat (refine brk_ok hA ?_; (try (conv => cbv))))
  refine hQ _ _ eb ?_
  rw [e_lss hA, add64 hA (by omega) (by omega), add64 hA (by omega) (by omega), mul64 hA (by omega) (by omega), mul64 hA (by omega) (by omega)]
  refine decide_eq_decide.2 ?_
  unfold sooner
  rw [hp1]
  simp [c1]

theorem next_loop {h : AHeap} (hlow : h.low ≤ h.next) {a : Option Addr} {n c : Nat} (hn : n ≤ 1000) {l : List Proj} (hs : Projs h a n l) (hb : bounds l) {bb lb : Nat} (hbb : h.next ≤ bb) (hlb : h.next ≤ lb) (hne : lb ≠ bb) {Q : Exit → SS → Prop}
    (h0 : ∀ h', Ext h h' → bb < h'.next → Own h' bb 1 [.int .i64 (turnF l)] → Q (.exit 0) ⟨[(3, .pointer (some ⟨bb, 0, none⟩))], 0, [], h'⟩) :
    ∀ (i : Int), 0 ≤ i → i ≤ n → ∀ h', Ext h h' → bb < h'.next → lb < h'.next → Own h' bb 1 [.int .i64 (turnTo l i.toNat)] → Own h' lb 1 [.slice a n c] →
      head 39 4 0 ⟨[(3, .pointer (some ⟨bb, 0, none⟩)), (4, .func (.func 41) #[] #[.pointer (some ⟨bb, 0, none⟩), .pointer (some ⟨lb, 0, none⟩)]), (8, .slice a n c), (9, .int .i64 (ofNat n)), (10, .int .i64 i)], 0, [], h'⟩ Q := by
  have hl := hs.len
  refine countUp (fun i hi0 hin ih h' he hb1 hb2 ho1 ho2 => ?_)
  refine hA.roundR Try.func39 r39_ok ?_; (try (conv => cbv)); repeat (refine brk_ok hA ?_; (try (conv => cbv)))
  refine br (i < n) (by rw [e_lss hA, e_ofNat hA]) (fun c1 => ?_) (fun c1 => ?_) <;> (try (conv => cbv)) <;> repeat (refine brk_ok hA ?_; (try (conv => cbv)))
  · obtain ⟨b, o, nm, sh, us, wt, rfl, hb3, hp, hr, _, _, _, _⟩ := (hs.ext he).at hi0 c1
    have hbd := hb _ (pj_mem l hi0 (by omega : i < l.length))
    have hrg := turnTo_range l i.toNat
    have hsu := turnTo_succ l hi0
    unfold turnStep at hsu
    rw [hp] at hbd hsu
    refine ⟨b, o, rfl, in_ok hA hi0 c1, ?_⟩
    ((try (conv => cbv)); repeat (refine brk_ok hA ?_; (try (conv => cbv))))
    refine ⟨nm, sh, us, wt, rd_ok hA hr, ?_⟩
    ((try (conv => cbv)); repeat (refine brk_ok hA ?_; (try (conv => cbv))))
    refine br (0 < wt) (e_gtr hA _ _) (fun c2 => ?_) (fun c2 => ?_) <;> (try (conv => cbv)) <;> repeat (refine brk_ok hA ?_; (try (conv => cbv)))
    · obtain ⟨bst, hbst⟩ : ∃ x, x = turnTo l i.toNat := ⟨_, rfl⟩
      rw [← hbst] at ho1 hsu hrg
      refine sooner_ok hA (he.lowOK hlow) (hs.ext he) hb ho1 ho2 ⟨nm, sh, us, wt⟩ hbd (by omega) (fun r h2 he2 hr2 => ⟨_, rfl, ?_⟩)
      ((try (conv => cbv)); repeat (refine brk_ok hA ?_; (try (conv => cbv))))
      have he02 := he.trans he2
      cases r with
      | true =>
        ((try (conv => cbv)); repeat (refine brk_ok hA ?_; (try (conv => cbv))))
        obtain ⟨h3, hw, ho3, hwr⟩ := (ho1.ext he2 hb1).write (o := 0) (vs := [.int .i64 i]) (by simp)
        refine ⟨h3, wr_at hA hw, ?_⟩
        ((try (conv => cbv)); repeat (refine brk_ok hA ?_; (try (conv => cbv))))
        rw [add64 hA (by omega) (by omega)]
        refine ih c1 h3 (hwr.ext he02 hbb) (by rw [hwr.next]; exact Nat.lt_of_lt_of_le hb1 he2.next) (by rw [hwr.next]; exact Nat.lt_of_lt_of_le hb2 he2.next) ?_ (hwr.own (ho2.ext he2 hb2) hne)
        have hso := of_decide_eq_true hr2.symm
        rw [hsu, if_pos ⟨c2, hso⟩]
        exact ho3
      | false =>
        ((try (conv => cbv)); repeat (refine brk_ok hA ?_; (try (conv => cbv))))
        rw [add64 hA (by omega) (by omega)]
        refine ih c1 h2 he02 (Nat.lt_of_lt_of_le hb1 he2.next) (Nat.lt_of_lt_of_le hb2 he2.next) ?_ (ho2.ext he2 hb2)
        have hso := of_decide_eq_false hr2.symm
        rw [hsu, if_neg (fun h => hso h.2)]
        exact ho1.ext he2 hb1
    · rw [add64 hA (by omega) (by omega)]
      refine ih c1 h' he hb1 hb2 ?_ ho2
      rw [hsu, if_neg (fun h => c2 h.1)]
      exact ho1
  · refine h0 h' he hb1 ?_
    unfold turnF
    rw [show l.length = i.toNat by omega]
    exact ho1

theorem next_ok {h : AHeap} (hlow : h.low ≤ h.next) {a : Option Addr} {n c : Nat} (hn : n ≤ 1000) {l : List Proj} (hs : Projs h a n l) (hb : bounds l) {Q : Value → AHeap → Prop}
    (hQ : ∀ r h', Ext h h' → r = turnF l → Q (.int .i64 r) h') : call 39 [.slice a n c] h Q := by
  refine hA.bodyR Try.func39 r39_ok (show prims _ _ _ = none from rfl) hlow ?_; (try (conv => cbv)); repeat (refine brk_ok hA ?_; (try (conv => cbv)))
  have e1 := Ext.push h 1 [.slice a n c]
  have o1 := Own.push h 1 [.slice a n c]
  have x1 : h.next < (h.push 1 [.slice a n c]).next := Nat.lt_succ_self _
  simp only [e_push hA, e_next hA]
  generalize h.push 1 [Value.slice a n c] = h1 at *
  have e2 := Ext.push h1 1 [.int .i64 0]
  have o2 := Own.push h1 1 [.int .i64 0]
  have x2 : h1.next < (h1.push 1 [.int .i64 0]).next := Nat.lt_succ_self _
  generalize h1.push 1 [Value.int IntKind.i64 0] = h2 at *
  obtain ⟨lb, hlb⟩ : ∃ x, x = h.next := ⟨_, rfl⟩
  obtain ⟨bb, hbb⟩ : ∃ x, x = h1.next := ⟨_, rfl⟩
  rw [← hbb] at o2 x2 ⊢
  rw [← hlb] at o1 x1 ⊢
  have e12 := e1.trans e2
  have nn := e2.next
  obtain ⟨h3, hw, ho3, hwr⟩ := o2.write (o := 0) (vs := [.int .i64 (-1)]) (by simp)
  have hnx := hwr.next
  have ol := hwr.own (o1.ext e2 x1) (by omega)
  have e3 := hwr.ext e12 (by omega)
  refine ⟨h3, wr_at hA hw, ?_⟩
  ((try (conv => cbv)); repeat (refine brk_ok hA ?_; (try (conv => cbv))))
  refine ⟨a, n, c, rd_at hA (ol.readG (by simp)), ?_⟩
  ((try (conv => cbv)); repeat (refine brk_ok hA ?_; (try (conv => cbv))))
  refine next_loop hA hlow hn hs hb (by omega) (by omega) (by omega) (fun h4 he4 hb4 ho4 => ?_) 0 (by omega) (by omega) h3 e3 (by omega) (by omega) ho3 ol
  ((try (conv => cbv)); repeat (refine brk_ok hA ?_; (try (conv => cbv))))
  obtain ⟨tf, htf⟩ : ∃ x, x = turnF l := ⟨_, rfl⟩
  rw [← htf] at ho4
  refine ⟨tf, rd_at hA (ho4.readG (by simp)), ?_⟩
  ((try (conv => cbv)); repeat (refine brk_ok hA ?_; (try (conv => cbv))))
  exact hQ _ _ he4 htf

theorem rturn_loop {h : AHeap} (hlow : h.low ≤ h.next) {a : Option Addr} {n c : Nat} (hn : n ≤ 1000) {l : List Proj} (hs : Projs h a n l) (hb : bounds l) {nu de : Int} {Q : Exit → SS → Prop}
    (h0 : ∀ r h', Ext h h' → r = turnF l → Q (.exit 0) ⟨[(3, .int .i64 r)], 1, [(0, [.slice a n c, .int .i64 nu, .int .i64 de])], h'⟩) :
    ∀ (i : Int), 0 ≤ i → i ≤ n → ∀ h' best, Ext h h' → best = turnTo l i.toNat →
      head 29 3 1 ⟨[(1, .pointer (some ⟨0, 0, some 0⟩)), (3, .int .i64 best), (4, .int .i64 i)], 1, [(0, [.slice a n c, .int .i64 nu, .int .i64 de])], h'⟩ Q := by
  have hl := hs.len
  refine countUp (fun i hi0 hin ih h' best he hbest => ?_)
  refine hA.roundR Try.func29 r29_ok ?_; (try (conv => cbv)); repeat (refine brk_ok hA ?_; (try (conv => cbv)))
  refine br (i < n) (by rw [e_lss hA, e_ofNat hA]) (fun c1 => ?_) (fun c1 => ?_) <;> (try (conv => cbv)) <;> repeat (refine brk_ok hA ?_; (try (conv => cbv)))
  · obtain ⟨b, o, nm, sh, us, wt, rfl, hb3, hp, hr, _, _, _, _⟩ := (hs.ext he).at hi0 c1
    have hbd := hb _ (pj_mem l hi0 (by omega : i < l.length))
    have hrg := turnTo_range l i.toNat
    have hsu := turnTo_succ l hi0
    unfold turnStep at hsu
    rw [hp] at hbd hsu
    rw [← hbest] at hsu hrg
    obtain ⟨p1, p2, p3, p4, p5, p6⟩ := hbd
    simp only at p1 p2 p3 p4 p5 p6
    refine ⟨b, o, rfl, in_ok hA hi0 c1, ?_⟩
    ((try (conv => cbv)); repeat (refine brk_ok hA ?_; (try (conv => cbv))))
    refine ⟨nm, sh, us, wt, rd_ok hA hr, ?_⟩
    ((try (conv => cbv)); repeat (refine brk_ok hA ?_; (try (conv => cbv))))
    refine br (wt = 0) (e_eql hA _ _) (fun c2 => ?_) (fun c2 => ?_) <;> (try (conv => cbv)) <;> repeat (refine brk_ok hA ?_; (try (conv => cbv)))
    · rw [add64 hA (by omega) (by omega)]
      exact ih c1 h' best he (by rw [hsu, if_neg (fun h => by have := h.1; simp only at this; omega)])
    have eb : Ext h (bump h' 25) := by rw [e_bump hA]; exact he.trans (.bump _ _)
    refine br (best < 0) (e_lss hA _ _) (fun c3 => ?_) (fun c3 => ?_) <;> (try (conv => cbv)) <;> repeat (refine brk_ok hA ?_; (try (conv => cbv)))
    · rw [add64 hA (by omega) (by omega)]
      exact ih c1 _ i eb (by rw [hsu, if_pos ⟨by simp only; omega, .inl c3⟩])
    · obtain ⟨b', o', nm1, sh1, us1, wt1, e', hb1, hp1, hr', f0, f1, f2, f3⟩ := (hs.ext he).at (i := best) (by omega) (by omega)
      simp only [Option.some.injEq, Addr.mk.injEq, and_true] at e'
      obtain ⟨rfl, rfl⟩ := e'
      have hbd := hb _ (pj_mem l (by omega) (by omega : best < l.length))
      rw [hp1] at hbd
      obtain ⟨q1, q2, q3, q4, q5, q6⟩ := hbd
      simp only at q1 q2 q3 q4 q5 q6
      have m1 := prod_small (a := us + 1) (b := sh1) (by omega) (by omega) (by omega) (by omega)
      have m2 := prod_small (a := us1 + 1) (b := sh) (by omega) (by omega) (by omega) (by omega)
      refine ⟨b, o, rfl, in_ok hA (by omega) (by omega), ?_⟩
      ((try (conv => cbv)); repeat (refine brk_ok hA ?_; (try (conv => cbv))))
      refine ⟨sh1, rd_fld hA (by rw [e_bump hA]; exact f1), ?_⟩
      ((try (conv => cbv)); repeat (refine brk_ok hA ?_; (try (conv => cbv))))
      refine ⟨b, o, rfl, in_ok hA (by omega) (by omega), ?_⟩
      ((try (conv => cbv)); repeat (refine brk_ok hA ?_; (try (conv => cbv))))
      refine ⟨us1, rd_fld hA (by rw [e_bump hA]; exact f2), ?_⟩
      ((try (conv => cbv)); repeat (refine brk_ok hA ?_; (try (conv => cbv))))
      refine br ((us + 1) * sh1 < (us1 + 1) * sh) (by rw [e_lss hA, add64 hA (by omega) (by omega), add64 hA (by omega) (by omega), mul64 hA (by omega) (by omega), mul64 hA (by omega) (by omega)]) (fun c4 => ?_) (fun c4 => ?_) <;> (try (conv => cbv)) <;> repeat (refine brk_ok hA ?_; (try (conv => cbv)))
      · rw [add64 hA (by omega) (by omega)]
        refine ih c1 _ i eb ?_
        rw [hsu, if_pos ⟨by simp only; omega, .inr (by rw [hp1]; exact c4)⟩]
      · rw [add64 hA (by omega) (by omega)]
        refine ih c1 _ best eb ?_
        rw [hsu, if_neg (fun h => ?_)]
        rcases h.2 with h9 | h9
        · exact c3 h9
        · rw [hp1] at h9; exact c4 h9
  · refine h0 _ h' he ?_
    unfold turnF
    rw [show l.length = i.toNat by omega]
    exact hbest

theorem rturn_ok {h : AHeap} (hlow : h.low ≤ h.next) {a : Option Addr} {n c : Nat} (hn : n ≤ 1000) {l : List Proj} (hs : Projs h a n l) (hb : bounds l) (nu de : Int) {Q : Value → AHeap → Prop}
    (hQ : ∀ r h', Ext h h' → r = turnF l → Q (.int .i64 r) h') : call 29 [.agg #[.slice a n c, .int .i64 nu, .int .i64 de]] h Q := by
  refine hA.bodyR Try.func29 r29_ok (show prims _ _ _ = none from rfl) hlow ?_; (try (conv => cbv)); repeat (refine brk_ok hA ?_; (try (conv => cbv)))
  refine rturn_loop hA hlow hn hs hb (fun r h' he hr => ?_) 0 (by omega) (by omega) h (-1) (.refl _) rfl
  ((try (conv => cbv)); repeat (refine brk_ok hA ?_; (try (conv => cbv))))
  exact hQ r h' he hr

theorem great_loop {h : AHeap} {a : Option Addr} {n c : Nat} (hn : n ≤ 9223372036854775807) {l : List Proj} (hs : Projs h a n l) {nu de : Int} {Q : Exit → SS → Prop}
    (h0 : (∀ p ∈ l, p.name.size ≤ 100) → Q (.exit 0) ⟨[(1, .pointer (some ⟨0, 0, some 0⟩))], 1, [(0, [.slice a n c, .int .i64 nu, .int .i64 de])], h⟩)
    (h1 : ∀ e kn K, Q .ret ⟨(2, .bool true) :: e, kn, K, h⟩) :
    ∀ (i : Int), 0 ≤ i → i ≤ n → (∀ j : Int, 0 ≤ j → j < i → (pj l j).name.size ≤ 100) →
      head 10 2 1 ⟨[(1, .pointer (some ⟨0, 0, some 0⟩)), (3, .int .i64 i)], 1, [(0, [.slice a n c, .int .i64 nu, .int .i64 de])], h⟩ Q := by
  have hl := hs.len
  refine countUp (fun i hi0 hin ih hj => ?_)
  refine hA.roundR Try.func10 r10_ok ?_; (try (conv => cbv)); repeat (refine brk_ok hA ?_; (try (conv => cbv)))
  refine br (i < n) (by rw [e_lss hA, e_ofNat hA]) (fun c1 => ?_) (fun c1 => ?_) <;> (try (conv => cbv)) <;> repeat (refine brk_ok hA ?_; (try (conv => cbv)))
  · obtain ⟨b, o, nm, sh, us, wt, rfl, hb3, hp, hr, f0, _, _, _⟩ := hs.at hi0 c1
    refine ⟨b, o, rfl, in_ok hA hi0 c1, ?_⟩
    ((try (conv => cbv)); repeat (refine brk_ok hA ?_; (try (conv => cbv))))
    refine ⟨nm, rd_fld hA f0, ?_⟩
    ((try (conv => cbv)); repeat (refine brk_ok hA ?_; (try (conv => cbv))))
    refine br (100 < (nm.size : Int)) (by rw [e_gtr hA, e_slen hA]) (fun c2 => ?_) (fun c2 => ?_) <;> (try (conv => cbv)) <;> repeat (refine brk_ok hA ?_; (try (conv => cbv)))
    · exact h1 _ _ _
    · rw [add64 hA (by omega) (by omega)]
      refine ih c1 (fun j hj0 hj1 => ?_)
      by_cases e : j = i
      · rw [e, hp]; simp only; omega
      · exact hj j hj0 (by omega)
  · refine h0 (fun p hp => ?_)
    obtain ⟨j, hj2, rfl⟩ := List.getElem_of_mem hp
    have := hj j (by omega) (by omega)
    unfold pj at this
    rw [Int.toNat_natCast, pj_at l hj2] at this
    exact this

/-- A queue that is not great. -/
def plainQ (l : List Proj) : Prop := (∀ p ∈ l, p.name.size ≤ 100) ∧ l.length ≤ 20

theorem great_ok {h : AHeap} (hlow : h.low ≤ h.next) {a : Option Addr} {n c : Nat} (hn : n ≤ 9223372036854775807) {l : List Proj} (hs : Projs h a n l) (nu de : Int) {Q : Value → AHeap → Prop}
    (h1 : Q (.bool true) h) (h0 : plainQ l → Q (.bool false) h) : call 10 [.agg #[.slice a n c, .int .i64 nu, .int .i64 de]] h Q := by
  have hl := hs.len
  refine hA.bodyR Try.func10 r10_ok (show prims _ _ _ = none from rfl) hlow ?_; (try (conv => cbv)); repeat (refine brk_ok hA ?_; (try (conv => cbv)))
  refine great_loop hA hn hs (fun hall => ?_) (fun e kn K => ?_) 0 (by omega) (by omega) (fun j a b => by omega)
  · ((try (conv => cbv)); repeat (refine brk_ok hA ?_; (try (conv => cbv))))
    have hg : cmp .gtr (ofNat n) 20 = decide (20 < (n : Int)) := by rw [e_gtr hA, e_ofNat hA]
    rw [hg]
    by_cases c1 : 20 < (n : Int)
    · rw [decide_eq_true c1]; exact h1
    · rw [decide_eq_false c1]; exact h0 ⟨hall, by omega⟩
  · ((try (conv => cbv)); repeat (refine brk_ok hA ?_; (try (conv => cbv))))
    exact h1

end Go.Proofs.Ytlpnmdknlfmjaaa
