/-
  queue.Check, fringeref42.Check: what they return.
-/
import Derived.Test.YtlpnmdknlfmjaaaQData
namespace Go.Proofs.Ytlpnmdknlfmjaaa
open Go.Sim
set_option linter.unusedVariables false
set_option maxRecDepth 100000

def sameName (p q : Proj) : Prop := (p.name.toList == q.name.toList) = true
/-- A name stands twice. -/
def twice (l : List Proj) : Prop := ∃ j i : Int, 0 ≤ j ∧ j < i ∧ i < l.length ∧ sameName (pj l j) (pj l i)
/-- A project fits a level. -/
def fits (nu de : Int) (p : Proj) : Prop := projP p ∧ p.used * de ≤ nu * p.share ∧ (0 < p.waiting → nu * p.share ≤ (p.used + 1) * de)
def allFit (nu de : Int) (l : List Proj) : Prop := ∀ i : Int, 0 ≤ i → i < l.length → fits nu de (pj l i)
noncomputable def checkQ (l : List Proj) (nu de : Int) : Int := by
  classical exact if 8 < (l.length : Int) then 4 else if twice l then 14 else if l.length = 0 ∨ ¬ (1 ≤ de ∧ de ≤ 100) ∨ ¬ (0 ≤ nu ∧ nu ≤ 1000000) then 8 else if allFit nu de l then 0 else 8

/-- The names are not longer than this. -/
def shortN (l : List Proj) : Prop := ∀ p ∈ l, p.name.size ≤ 1000000

theorem pj_mem (l : List Proj) {i : Int} (h0 : 0 ≤ i) (h1 : i < l.length) : pj l i ∈ l := by
  unfold pj
  rw [pj_at l (by omega)]
  exact List.getElem_mem _

/-- Small numbers multiplied. -/
theorem mul_small {a b : Int} (ha0 : 0 ≤ a) (ha1 : a ≤ 1000001) (hb0 : 0 ≤ b) (hb1 : b ≤ 1000) : 0 ≤ a * b ∧ a * b ≤ 1000001000 := by
  refine ⟨Int.mul_nonneg ha0 hb0, ?_⟩
  have := Int.mul_le_mul ha1 hb1 hb0 (by omega)
  omega

theorem Projs.take {h : AHeap} {a : Option Addr} {n m : Nat} {l : List Proj} (c : Projs h a n l) (hm : m ≤ n) : Projs h a m (l.take m) := by
  have hl := c.len
  refine ⟨?_⟩
  have hc := c.cells
  cases a with
  | none =>
    obtain ⟨h1, h2⟩ := hc
    subst h1
    have : m = 0 := by omega
    subst this
    exact ⟨rfl, by simp [flatP]⟩
  | some ad =>
    obtain ⟨h1, h2, h3⟩ := hc
    refine ⟨h1, h2, ?_⟩
    unfold AHeap.readG at h3 ⊢
    rw [h1] at h3 ⊢
    simp only [] at h3 ⊢
    split at h3
    · rename_i cs hcs
      obtain ⟨e1, e2⟩ := readN_eq h3
      have e3 : flatP (l.take m) = (flatP l).take (m * 4) := by
        have e4 : flatP l = flatP (l.take m) ++ flatP (l.drop m) := by
          unfold flatP; rw [← List.flatMap_append, List.take_append_drop]
        have e5 : (flatP (l.take m)).length = m * 4 := by rw [flatP_len, List.length_take]; omega
        rw [e4, ← e5, List.take_left]
      refine readN_some ?_ (by rw [flatP_len, List.length_take]; omega)
      rw [e3, ← e1, List.take_take, Nat.min_eq_left (by omega)]
    · cases h3

theorem findF_take {l : List Proj} {i : Int} (h0 : 0 ≤ i) (h1 : i < l.length) : 0 ≤ findF (l.take i.toNat) (pj l i).name ↔ ∃ j : Int, 0 ≤ j ∧ j < i ∧ sameName (pj l j) (pj l i) := by
  unfold findF
  constructor
  · intro h
    split at h
    · rename_i k hk
      rw [List.findIdx?_eq_some_iff_getElem] at hk
      obtain ⟨hk1, hk2, _⟩ := hk
      rw [List.length_take] at hk1
      refine ⟨k, by omega, by omega, ?_⟩
      have hpk : pj l (k : Int) = l[k] := by unfold pj; rw [Int.toNat_natCast]; exact pj_at l (by omega)
      unfold sameName
      rw [hpk]
      rw [List.getElem_take] at hk2
      exact hk2
    · omega
  · rintro ⟨j, hj0, hj1, hj⟩
    split
    · omega
    · rename_i hk
      rw [List.findIdx?_eq_none_iff] at hk
      have hm : pj l j ∈ l.take i.toNat := by
        unfold pj
        rw [pj_at l (by omega)]
        rw [List.mem_take_iff_getElem]
        exact ⟨j.toNat, by omega, rfl⟩
      have := hk _ hm
      unfold sameName at hj
      rw [hj] at this
      cases this

variable {call : FuncId → List Value → AHeap → (Value → AHeap → Prop) → Prop}
  {head : FuncId → Nat → Nat → SS → (Exit → SS → Prop) → Prop}
  {arith : BinOp → IntKind → Int → Int → Int}
  {cmp : BinOp → Int → Int → Bool}
  {scmp : BinOp → ByteArray → ByteArray → Bool}
  {bnot : Bool → Bool}
  {bsame : Bool → Bool → Bool}
  {conv : IntKind → Int → Int}
  {neg : IntKind → Int → Int}
  {imax : Int → Int → Int}
  {imin : Int → Int → Int}
  {ofNat : Nat → Int}
  {slen : ByteArray → Int}
  {place : Nat → Int → Nat → Nat}
  {inR : Int → Nat → Prop}
  {nz : Int → Prop}
  {geZ : Int → Prop}
  {rd : AHeap → Nat → Nat → Nat → List Value → Prop}
  {wr : AHeap → Nat → Nat → List Value → AHeap → Prop}
  {push : AHeap → Nat → List Value → AHeap}
  {next : AHeap → Nat}
  {mkOK : Int → Int → Prop}
  {nat : Int → Nat}
  {zeros : List Value → Int → List Value}
  {sadd : ByteArray → ByteArray → (ByteArray → Prop) → Prop}
  {eqAgg : TypeId → Array Value → Array Value → (Bool → Prop) → Prop}
  {cut : Nat → Int → Prop}
  {slc : TypeId → Value → Option Value → Option Value → Option Value → (Option Addr → Nat → Nat → Prop) → Prop}
  {sslc : TypeId → ByteArray → Option Value → Option Value → (ByteArray → Prop) → Prop}
  {strAt : ByteArray → Int → (Int → Prop) → Prop}
  {part : TypeId → Array Value → Nat → Value → Prop}
  {app : List TypeId → List Value → AHeap → (Option Addr → Nat → Nat → AHeap → Prop) → Prop}
  {cpy : List TypeId → List Value → AHeap → (Int → AHeap → Prop) → Prop}
  {putAt : AHeap → Nat → Nat → List Value → AHeap}
  {fresh : AHeap → AHeap}
  {lowered : AHeap → AHeap → AHeap}
  {bump : AHeap → Nat → AHeap}
  {wrote : AHeap → AHeap → Bool}
  {addN : Nat → Nat → Nat}
  {lt : Nat → Nat → Prop}
  {ne : Nat → Nat → Prop}
  {fpAll : Bool → Bool → Bool → Nat → Nat → Prop}
  {brk : (Unit → Prop) → Prop}
  (hA : AOK progU hint prims ⟨call, head, arith, cmp, scmp, bnot, bsame, conv, neg, imax, imin, ofNat, slen, place, inR, nz, geZ, rd, wr, push, next, mkOK, nat, zeros, sadd, eqAgg, cut, slc, sslc, strAt, part, app, cpy, putAt, fresh, lowered, bump, wrote, addN, lt, ne, fpAll, brk⟩)
include hA

theorem check_loop1 {h : AHeap} (hlow : h.low ≤ h.next) {a : Option Addr} {n c : Nat} (hn : n ≤ 8) (hc : n ≤ capLow c) {l : List Proj} (hs : Projs h a n l) (hsh : shortN l) {nu de : Int} {Q : Exit → SS → Prop}
    (h0 : ¬ twice l → ∀ h', Ext h h' → Q (.exit 0) ⟨[(1, .pointer (some ⟨0, 0, some 0⟩))], 1, [(0, [.slice a n c, .int .i64 nu, .int .i64 de])], h'⟩) (h1 : ∀ e kn K h', twice l → Ext h h' → Q .ret ⟨(2, .int .i64 14) :: e, kn, K, h'⟩) :
    ∀ (i : Int), 0 ≤ i → i ≤ n → (∀ j k : Int, 0 ≤ j → j < k → k < i → ¬ sameName (pj l j) (pj l k)) → ∀ h', Ext h h' → head 26 4 1 ⟨[(1, .pointer (some ⟨0, 0, some 0⟩)), (12, .slice a n c), (13, .int .i64 (ofNat n)), (14, .int .i64 i)], 1, [(0, [.slice a n c, .int .i64 nu, .int .i64 de])], h'⟩ Q := by
  have hl := hs.len
  refine countUp (fun i hi0 hin ih hj h' he => ?_)
  refine hA.roundR Try.func26 r26_ok ?_; (try (conv => cbv)); repeat (refine brk_ok hA ?_; (try (conv => cbv)))
  refine br (i < n) (by rw [e_lss hA, e_ofNat hA]) (fun c => ?_) (fun c => ?_) <;> (try (conv => cbv)) <;> repeat (refine brk_ok hA ?_; (try (conv => cbv)))
  · obtain ⟨b, o, nm1, sh, us, wt, rfl, hb, hp, hr, _, _, _, _⟩ := (hs.ext he).at hi0 c
    refine ⟨b, o, rfl, in_ok hA hi0 c, ?_⟩
    ((try (conv => cbv)); repeat (refine brk_ok hA ?_; (try (conv => cbv))))
    refine ⟨nm1, sh, us, wt, rd_ok hA hr, ?_⟩
    ((try (conv => cbv)); repeat (refine brk_ok hA ?_; (try (conv => cbv))))
    have hnm : (pj l i).name = nm1 := by rw [hp]
    have hni : nat i = i.toNat := e_nat hA i
    have he8 : Ext h (h'.bump 8).freshed := (he.trans (.bump _ _)).trans (.freshed _)
    refine ⟨by rw [e_cut hA]; omega, ?_⟩
    ((try (conv => cbv)); repeat (refine brk_ok hA ?_; (try (conv => cbv))))
    refine find_ok hA (by rw [e_fresh hA]; exact freshed_low _) (by omega) (l := l.take i.toNat) (by rw [hni, e_fresh hA, e_bump hA]; exact (hs.ext he8).take (by omega)) nm1 (fun r hr => ⟨_, rfl, ?_⟩)
    have hiff := findF_take (l := l) hi0 (by omega)
    rw [hnm, ← hr] at hiff
    ((try (conv => cbv)); repeat (refine brk_ok hA ?_; (try (conv => cbv))))
    obtain ⟨h8, hh8⟩ : ∃ x, x = h'.bump 8 := ⟨_, rfl⟩
    have e8 : Ext h h8 := by rw [hh8]; exact he.trans (.bump _ _)
    rw [backTo hA 8 (he.lowOK hlow), ← hh8]
    refine br (0 ≤ r) (e_geq hA _ _) (fun c2 => ?_) (fun c2 => ?_) <;> (try (conv => cbv)) <;> repeat (refine brk_ok hA ?_; (try (conv => cbv)))
    · obtain ⟨j, hj0, hj1, hj2⟩ := hiff.1 c2
      exact h1 _ _ _ _ ⟨j, i, hj0, hj1, by omega, hj2⟩ e8
    · rw [add64 hA (by omega) (by omega)]
      refine ih c (fun j k hj0 hj1 hj2 hs2 => ?_) _ e8
      by_cases e : k = i
      · subst e; exact c2 (hiff.2 ⟨j, hj0, hj1, hs2⟩)
      · exact hj j k hj0 hj1 (by omega) hs2
  · refine h0 (fun ht => ?_) h' he
    obtain ⟨j, k, hj0, hj1, hj2, hs2⟩ := ht
    exact hj j k hj0 hj1 (by omega) hs2

theorem check_loop2 {h : AHeap} (hlow : h.low ≤ h.next) {a : Option Addr} {n c : Nat} (hn : n ≤ 8) {l : List Proj} (hs : Projs h a n l) (hsh : shortN l) {nu de : Int} (hnu : 0 ≤ nu ∧ nu ≤ 1000000) (hde : 1 ≤ de ∧ de ≤ 100) {Q : Exit → SS → Prop}
    (h0 : allFit nu de l → Q (.exit 2) ⟨[], 1, [(0, [.slice a n c, .int .i64 nu, .int .i64 de])], h⟩) (h1 : ∀ e kn K, ¬ allFit nu de l → Q .ret ⟨(2, .int .i64 8) :: e, kn, K, h⟩) :
    ∀ (i : Int), 0 ≤ i → i ≤ n → (∀ j : Int, 0 ≤ j → j < i → fits nu de (pj l j)) → head 26 12 1 ⟨[(1, .pointer (some ⟨0, 0, some 0⟩)), (53, .slice a n c), (54, .int .i64 (ofNat n)), (55, .int .i64 i)], 1, [(0, [.slice a n c, .int .i64 nu, .int .i64 de])], h⟩ Q := by
  have hl := hs.len
  refine countUp (fun i hi0 hin ih hj => ?_)
  refine hA.roundR Try.func26 r26_ok ?_; (try (conv => cbv)); repeat (refine brk_ok hA ?_; (try (conv => cbv)))
  refine br (i < n) (by rw [e_lss hA, e_ofNat hA]) (fun c => ?_) (fun c => ?_) <;> (try (conv => cbv)) <;> repeat (refine brk_ok hA ?_; (try (conv => cbv)))
  · obtain ⟨b, o, nm1, sh, us, wt, rfl, hb, hp, hr, _, _, _, _⟩ := hs.at hi0 c
    have hsz : nm1.size ≤ 1000000 := by
      have := hsh _ (pj_mem l hi0 (by omega)); rw [hp] at this; exact this
    have bad : ¬ fits nu de (pj l i) → ¬ allFit nu de l := fun hn hall => hn (hall i hi0 (by omega))
    rw [hp] at bad
    refine ⟨b, o, rfl, in_ok hA hi0 c, ?_⟩
    ((try (conv => cbv)); repeat (refine brk_ok hA ?_; (try (conv => cbv))))
    refine ⟨nm1, sh, us, wt, rd_ok hA hr, ?_⟩
    ((try (conv => cbv)); repeat (refine brk_ok hA ?_; (try (conv => cbv))))
    refine isProject_ok hA hlow nm1 sh us wt hsz (fun r hr => ⟨_, rfl, ?_⟩)
    ((try (conv => cbv)); repeat (refine brk_ok hA ?_; (try (conv => cbv))))
    have hbn := e_bnot hA r
    cases r
    · rw [hbn]
      ((try (conv => cbv)); repeat (refine brk_ok hA ?_; (try (conv => cbv))))
      exact h1 _ _ _ (bad (fun hf => by have := hr.2 hf.1; cases this))
    have hpp := hr.1 rfl
    obtain ⟨hp1, hp2, hp3, hp4, hp5, hp6, hp7⟩ := hpp
    simp only at hp1 hp2 hp3 hp4 hp5 hp6 hp7
    have m1 := mul_small hp4 (by omega) (b := de) (by omega) (by omega)
    have m2 := mul_small hnu.1 (by omega) (b := sh) (by omega) (by omega)
    have m3 := mul_small (a := us + 1) (by omega) (by omega) (b := de) (by omega) (by omega)
    rw [hbn]
    ((try (conv => cbv)); repeat (refine brk_ok hA ?_; (try (conv => cbv))))
    refine br (nu * sh < us * de) (by rw [e_gtr hA, mul64 hA (by omega) (by omega), mul64 hA (by omega) (by omega)]) (fun c2 => ?_) (fun c2 => ?_) <;> (try (conv => cbv)) <;> repeat (refine brk_ok hA ?_; (try (conv => cbv)))
    · exact h1 _ _ _ (bad (fun hf => by have := hf.2.1; simp only at this; omega))
    refine br (0 < wt) (e_gtr hA _ _) (fun c3 => ?_) (fun c3 => ?_) <;> (try (conv => cbv)) <;> repeat (refine brk_ok hA ?_; (try (conv => cbv)))
    · refine br ((us + 1) * de < nu * sh) (by rw [e_lss hA, add64 hA (by omega) (by omega), mul64 hA (by omega) (by omega), mul64 hA (by omega) (by omega)]) (fun c4 => ?_) (fun c4 => ?_) <;> (try (conv => cbv)) <;> repeat (refine brk_ok hA ?_; (try (conv => cbv)))
      · exact h1 _ _ _ (bad (fun hf => by have := hf.2.2 c3; simp only at this; omega))
      · rw [add64 hA (by omega) (by omega)]
        refine ih c (fun j hj0 hj1 => ?_)
        by_cases e : j = i
        · rw [e, hp]; exact ⟨⟨hp1, hp2, hp3, hp4, hp5, hp6, hp7⟩, by simp only; omega, fun _ => by simp only; omega⟩
        · exact hj j hj0 (by omega)
    · rw [add64 hA (by omega) (by omega)]
      refine ih c (fun j hj0 hj1 => ?_)
      by_cases e : j = i
      · rw [e, hp]; exact ⟨⟨hp1, hp2, hp3, hp4, hp5, hp6, hp7⟩, by simp only; omega, fun h => absurd h c3⟩
      · exact hj j hj0 (by omega)
  · exact h0 (fun j hj0 hj1 => hj j hj0 (by omega))

theorem check_ok {h : AHeap} (hlow : h.low ≤ h.next) {a : Option Addr} {n c : Nat} (hn : n ≤ 1000000) (hc : n ≤ capLow c) {l : List Proj} (hs : Projs h a n l) (hsh : shortN l) (nu de : Int) {Q : Value → AHeap → Prop} (hQ : ∀ r h', r = checkQ l nu de → Ext h h' → Q (.int .i64 r) h') : call 26 [.agg #[.slice a n c, .int .i64 nu, .int .i64 de]] h Q := by
  have hl := hs.len
  refine hA.bodyR Try.func26 r26_ok (show prims _ _ _ = none from rfl) hlow ?_; (try (conv => cbv)); repeat (refine brk_ok hA ?_; (try (conv => cbv)))
  refine br (8 < (n : Int)) (by rw [e_gtr hA, e_ofNat hA]) (fun c1 => ?_) (fun c1 => ?_) <;> (try (conv => cbv)) <;> repeat (refine brk_ok hA ?_; (try (conv => cbv)))
  · exact hQ 4 _ (by unfold checkQ; rw [if_pos (by omega)]) (.refl _)
  refine check_loop1 hA hlow (by omega) hc hs hsh (fun ht h1 he1 => ?_) (fun e kn K h1 ht he1 => ?_) 0 (by omega) (by omega) (fun j k a b c => by omega) h (.refl _)
  rotate_left
  · ((try (conv => cbv)); repeat (refine brk_ok hA ?_; (try (conv => cbv))))
    exact hQ 14 _ (by unfold checkQ; rw [if_neg (by omega), if_pos ht]) he1
  have bad8 : (l.length = 0 ∨ ¬ (1 ≤ de ∧ de ≤ 100) ∨ ¬ (0 ≤ nu ∧ nu ≤ 1000000)) → Q (.int .i64 8) h1 := fun hb => hQ 8 h1 (by unfold checkQ; rw [if_neg (by omega), if_neg ht, if_pos hb]) he1
  ((try (conv => cbv)); repeat (refine brk_ok hA ?_; (try (conv => cbv))))
  refine br ((n : Int) < 1) (by rw [e_lss hA, e_ofNat hA]) (fun c2 => ?_) (fun c2 => ?_) <;> (try (conv => cbv)) <;> repeat (refine brk_ok hA ?_; (try (conv => cbv)))
  · exact bad8 (by omega)
  refine br (de < 1) (e_lss hA _ _) (fun c3 => ?_) (fun c3 => ?_) <;> (try (conv => cbv)) <;> repeat (refine brk_ok hA ?_; (try (conv => cbv)))
  · exact bad8 (by omega)
  refine br (100 < de) (e_gtr hA _ _) (fun c4 => ?_) (fun c4 => ?_) <;> (try (conv => cbv)) <;> repeat (refine brk_ok hA ?_; (try (conv => cbv)))
  · exact bad8 (by omega)
  refine br (nu < 0) (e_lss hA _ _) (fun c5 => ?_) (fun c5 => ?_) <;> (try (conv => cbv)) <;> repeat (refine brk_ok hA ?_; (try (conv => cbv)))
  · exact bad8 (by omega)
  refine br (1000000 < nu) (e_gtr hA _ _) (fun c6 => ?_) (fun c6 => ?_) <;> (try (conv => cbv)) <;> repeat (refine brk_ok hA ?_; (try (conv => cbv)))
  · exact bad8 (by omega)
  refine check_loop2 hA (he1.lowOK hlow) (by omega) (hs.ext he1) hsh (by omega) (by omega) (fun hall => ?_) (fun e kn K hall => ?_) 0 (by omega) (by omega) (fun j a b => by omega)
  · ((try (conv => cbv)); repeat (refine brk_ok hA ?_; (try (conv => cbv))))
    exact hQ 0 _ (by unfold checkQ; rw [if_neg (by omega), if_neg ht, if_neg (by omega), if_pos hall]) he1
  · ((try (conv => cbv)); repeat (refine brk_ok hA ?_; (try (conv => cbv))))
    exact hQ 8 _ (by unfold checkQ; rw [if_neg (by omega), if_neg ht, if_neg (by omega), if_neg hall]) he1

end Go.Proofs.Ytlpnmdknlfmjaaa
