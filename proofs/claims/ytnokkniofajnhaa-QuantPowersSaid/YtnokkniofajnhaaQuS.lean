/-
  sample.Check, sample.Counts: what they return.
-/
import Derived.Test.YtnokkniofajnhaaSymFacts
import Derived.Test.YtnokkniofajnhaaSeatX8
namespace Go.Proofs.Ytnokkniofajnhaa
open Go.Sim
set_option linter.unusedVariables false
set_option maxRecDepth 100000

def digitF (x : Int) : Int := if x = 0 then 0 else if x = -3 then 1 else if x = -1 then 2 else if x = 1 then 3 else if x = 3 then 4 else -1
def good (x : Int) : Bool := decide (0 ≤ digitF x)
def checkF (l : List Int) : Int := if 256 < (l.length : Int) then 4 else if l.all good then 0 else 8
def cntF (d : Int) (l : List Int) : Int := (l.countP (fun x => decide (digitF x = d)) : Nat)

theorem digitF_le (x : Int) : -1 ≤ digitF x ∧ digitF x ≤ 4 := by unfold digitF; constructor <;> (repeat' split) <;> omega
def counts (l : List Int) : List Int := [cntF 0 l, cntF 1 l, cntF 2 l, cntF 3 l, cntF 4 l]

theorem cntF_append (d : Int) (t : List Int) (x : Int) : cntF d (t ++ [x]) = cntF d t + if digitF x = d then 1 else 0 := by
  unfold cntF; rw [List.countP_append]
  by_cases e : digitF x = d <;> simp [e]

theorem cntF_bound (d : Int) (l : List Int) : 0 ≤ cntF d l ∧ cntF d l ≤ l.length := by
  unfold cntF
  have := List.countP_le_length (p := fun x => decide (digitF x = d)) (l := l)
  omega

theorem counts_at (t : List Int) {d : Int} (h0 : 0 ≤ d) (h1 : d ≤ 4) : (counts t).getD d.toNat 0 = cntF d t := by
  have : d = 0 ∨ d = 1 ∨ d = 2 ∨ d = 3 ∨ d = 4 := by omega
  rcases this with rfl | rfl | rfl | rfl | rfl <;> rfl

theorem counts_step (t : List Int) (x : Int) (hx : 0 ≤ digitF x) : (counts t).set (digitF x).toNat (cntF (digitF x) t + 1) = counts (t ++ [x]) := by
  have h4 := (digitF_le x).2
  unfold counts
  simp only [cntF_append]
  have : digitF x = 0 ∨ digitF x = 1 ∨ digitF x = 2 ∨ digitF x = 3 ∨ digitF x = 4 := by omega
  rcases this with e | e | e | e | e <;> rw [e] <;> simp

variable {F : Prims} {call head arith cmp scmp bnot bsame conv neg imax imin ofNat slen place inR nz geZ rd wr push next mkOK nat zeros sadd eqAgg cut slc sslc strAt part app cpy putAt fresh lowered bump wrote addN lt ne fpAll brk yn rng mget mput mnew bytes clr} (hA : AP F ⟨call, head, arith, cmp, scmp, bnot, bsame, conv, neg, imax, imin, ofNat, slen, place, inR, nz, geZ, rd, wr, push, next, mkOK, nat, zeros, sadd, eqAgg, cut, slc, sslc, strAt, part, app, cpy, putAt, fresh, lowered, bump, wrote, addN, lt, ne, fpAll, brk, yn, rng, mget, mput, mnew, bytes, clr⟩)
include hA

theorem sdigit_ok (x : Int) {h : AHeap} (hlow : h.low ≤ h.next) {Q : Value → AHeap → Prop} (hQ : ∀ r, r = digitF x → Q (.int .i64 r) h) : call 50 [.int .i64 x] h Q := by
  have hQ := hQ _ rfl
  refine hA.bodyR Try.func50 r50_ok (hA.alike _ _ _ rfl) hlow ?_; (try (conv => cbv)); repeat (refine brk_ok hA ?_; (try (conv => cbv)))
  unfold digitF at hQ
  refine br (x = 0) (e_eql hA _ _) (fun c => ?_) (fun c => ?_) <;> (try (conv => cbv)) <;> repeat (refine brk_ok hA ?_; (try (conv => cbv)))
  · rw [if_pos c] at hQ; exact hQ
  rw [if_neg c] at hQ
  refine br (x = -3) (e_eql hA _ _) (fun c => ?_) (fun c => ?_) <;> (try (conv => cbv)) <;> repeat (refine brk_ok hA ?_; (try (conv => cbv)))
  · rw [if_pos c] at hQ; exact hQ
  rw [if_neg c] at hQ
  refine br (x = -1) (e_eql hA _ _) (fun c => ?_) (fun c => ?_) <;> (try (conv => cbv)) <;> repeat (refine brk_ok hA ?_; (try (conv => cbv)))
  · rw [if_pos c] at hQ; exact hQ
  rw [if_neg c] at hQ
  refine br (x = 1) (e_eql hA _ _) (fun c => ?_) (fun c => ?_) <;> (try (conv => cbv)) <;> repeat (refine brk_ok hA ?_; (try (conv => cbv)))
  · rw [if_pos c] at hQ; exact hQ
  rw [if_neg c] at hQ
  refine br (x = 3) (e_eql hA _ _) (fun c => ?_) (fun c => ?_) <;> (try (conv => cbv)) <;> repeat (refine brk_ok hA ?_; (try (conv => cbv)))
  · rw [if_pos c] at hQ; exact hQ
  rw [if_neg c] at hQ
  exact hQ

theorem scheck_loop {h : AHeap} (hlow : h.low ≤ h.next) {a : Option Addr} {n c : Nat} (hn : n ≤ 1000000) {l : List Int} (hs : Ints h .i64 a n l) {Q : Exit → SS → Prop}
    (h0 : l.all good = true → Q (.exit 0) ⟨[], 0, [], h⟩) (h1 : ∀ e, l.all good = false → Q .ret ⟨(2, .int .i64 8) :: e, 0, [], h⟩) :
    ∀ (i : Int), 0 ≤ i → i ≤ n → (l.take i.toNat).all good = true → head 49 4 0 ⟨[(8, .slice a n c), (9, .int .i64 (ofNat n)), (10, .int .i64 i)], 0, [], h⟩ Q := by
  have hl := hs.len
  refine countUp (fun i hi0 hin ih hj => ?_)
  refine hA.roundR Try.func49 r49_ok ?_; (try (conv => cbv)); repeat (refine brk_ok hA ?_; (try (conv => cbv)))
  refine br (i < n) (by rw [e_lss hA, e_ofNat hA]) (fun c => ?_) (fun c => ?_) <;> (try (conv => cbv)) <;> repeat (refine brk_ok hA ?_; (try (conv => cbv)))
  · obtain ⟨b, o, x, rfl, hb, hx, hr⟩ := hs.atI hi0 c
    have ht := take_succ' l hi0 (by omega)
    refine ⟨b, o, rfl, in_ok hA hi0 c, ?_⟩
    ((try (conv => cbv)); repeat (refine brk_ok hA ?_; (try (conv => cbv))))
    refine ⟨_, rd_ok hA hr, ?_⟩
    ((try (conv => cbv)); repeat (refine brk_ok hA ?_; (try (conv => cbv))))
    refine sdigit_ok hA _ hlow (fun r hd => ?_)
    refine ⟨_, rfl, ?_⟩
    ((try (conv => cbv)); repeat (refine brk_ok hA ?_; (try (conv => cbv))))
    refine br (r < 0) (e_lss hA _ _) (fun c2 => ?_) (fun c2 => ?_) <;> (try (conv => cbv)) <;> repeat (refine brk_ok hA ?_; (try (conv => cbv)))
    · ((try (conv => cbv)); repeat (refine brk_ok hA ?_; (try (conv => cbv))))
      refine h1 _ ?_
      rw [List.all_eq_false]
      refine ⟨at' l i, ?_, ?_⟩
      · exact at'_mem l hi0 (by omega)
      · rw [← hx]; unfold good; rw [← hd]; simp; omega
    · ((try (conv => cbv)); repeat (refine brk_ok hA ?_; (try (conv => cbv))))
      rw [add64 hA (by omega) (by omega)]
      refine ih c ?_
      rw [ht, List.all_append, hj, ← hx]
      simp [good, ← hd]; omega
  · ((try (conv => cbv)); repeat (refine brk_ok hA ?_; (try (conv => cbv))))
    refine h0 ?_
    rw [List.take_of_length_le (by omega)] at hj
    exact hj

theorem scheck_ok {h : AHeap} (hlow : h.low ≤ h.next) {a : Option Addr} {n c : Nat} (hn : n ≤ 1000000) {l : List Int} (hs : Ints h .i64 a n l) {Q : Value → AHeap → Prop} (hQ : ∀ r, r = checkF l → Q (.int .i64 r) h) : call 49 [.slice a n c] h Q := by
  have hl := hs.len
  have hQ := hQ _ rfl
  unfold checkF at hQ
  refine hA.bodyR Try.func49 r49_ok (hA.alike _ _ _ rfl) hlow ?_; (try (conv => cbv)); repeat (refine brk_ok hA ?_; (try (conv => cbv)))
  refine br (256 < (n : Int)) (by rw [e_gtr hA, e_ofNat hA]) (fun c => ?_) (fun c => ?_) <;> (try (conv => cbv)) <;> repeat (refine brk_ok hA ?_; (try (conv => cbv)))
  · rw [if_pos (by omega)] at hQ; exact hQ
  rw [if_neg (by omega)] at hQ
  refine scheck_loop hA hlow hn hs (fun e => ?_) (fun e e2 => ?_) 0 (by omega) (by omega) (by simp)
  · ((try (conv => cbv)); repeat (refine brk_ok hA ?_; (try (conv => cbv))))
    rw [if_pos e] at hQ; exact hQ
  · ((try (conv => cbv)); repeat (refine brk_ok hA ?_; (try (conv => cbv))))
    rw [if_neg (by simp [e2])] at hQ; exact hQ

theorem scounts_loop {h : AHeap} (hlow : h.low ≤ h.next) {a : Option Addr} {n c : Nat} (hn : n ≤ 1000000) {l : List Int} (hs : Ints h .i64 a n l) (hg : l.all good = true) {b : Nat} (hb : h.next ≤ b) {K : List (Nat × List Value)} {Q : Exit → SS → Prop}
    (h0 : ∀ h', Ext h h' → b < h'.next → Own h' b 5 ((counts l).map (.int .i64)) → Q (.exit 0) ⟨[(2, .pointer (some ⟨0, 0, some 0⟩)), (5, .pointer (some ⟨b, 0, none⟩))], 1, K, h'⟩) :
    ∀ (i : Int), 0 ≤ i → i ≤ n → ∀ h', Ext h h' → b < h'.next → Own h' b 5 ((counts (l.take i.toNat)).map (.int .i64)) → head 30 6 1 ⟨[(2, .pointer (some ⟨0, 0, some 0⟩)), (5, .pointer (some ⟨b, 0, none⟩)), (14, .slice a n c), (15, .int .i64 (ofNat n)), (16, .int .i64 i)], 1, K, h'⟩ Q := by
  have hl := hs.len
  refine countUp (fun i hi0 hin ih h' he hbn ho => ?_)
  refine hA.roundR Try.func30 r30_ok ?_; (try (conv => cbv)); repeat (refine brk_ok hA ?_; (try (conv => cbv)))
  refine br (i < n) (by rw [e_lss hA, e_ofNat hA]) (fun c => ?_) (fun c => ?_) <;> (try (conv => cbv)) <;> repeat (refine brk_ok hA ?_; (try (conv => cbv)))
  · obtain ⟨b1, o1, x, rfl, hb1, hx, hr⟩ := (hs.ext he).atI hi0 c
    have ht := take_succ' l hi0 (by omega)
    have hgx : 0 ≤ digitF x := by
      have := List.all_eq_true.1 hg (at' l i) (at'_mem l hi0 (by omega))
      rw [← hx] at this; simpa [good] using this
    have h4 := (digitF_le x).2
    have hcb := cntF_bound (digitF x) (l.take i.toNat)
    rw [List.length_take] at hcb
    refine ⟨b1, o1, rfl, in_ok hA hi0 c, ?_⟩
    ((try (conv => cbv)); repeat (refine brk_ok hA ?_; (try (conv => cbv))))
    refine ⟨_, rd_ok hA hr, ?_⟩
    ((try (conv => cbv)); repeat (refine brk_ok hA ?_; (try (conv => cbv))))
    refine sdigit_ok hA _ (he.lowOK hlow) (fun r hd => ⟨_, rfl, ?_⟩)
    have hrd := ho.getInt (i := r.toNat) (by simp [counts]; omega)
    rw [hd, counts_at _ hgx h4] at hrd
    obtain ⟨h2, hw, ho2, hwr⟩ := ho.setInt (i := (digitF x).toNat) (by simp [counts]; omega) (cntF (digitF x) (l.take i.toNat) + 1)
    rw [counts_step _ _ hgx, hx, ← ht] at ho2
    ((try (conv => cbv)); repeat (refine brk_ok hA ?_; (try (conv => cbv))))
    refine ⟨in_ok hA (by omega) (by omega), ?_⟩
    ((try (conv => cbv)); repeat (refine brk_ok hA ?_; (try (conv => cbv))))
    refine ⟨cntF r (l.take i.toNat), rd_ok hA (by rw [Nat.zero_add, Nat.mul_one, hd]; exact hrd), ?_⟩
    generalize hcn : cntF r (l.take i.toNat) = cn
    ((try (conv => cbv)); repeat (refine brk_ok hA ?_; (try (conv => cbv))))
    refine ⟨in_ok hA (by omega) (by omega), ?_⟩
    ((try (conv => cbv)); repeat (refine brk_ok hA ?_; (try (conv => cbv))))
    refine ⟨h2, wr_ok hA ?_, ?_⟩
    · rw [Nat.zero_add, Nat.mul_one, hd]
      rw [hd] at hcn
      rw [hcn] at hw hcb
      rw [add64 hA (by omega) (by omega)]; exact hw
    ((try (conv => cbv)); repeat (refine brk_ok hA ?_; (try (conv => cbv))))
    rw [add64 hA (by omega) (by omega)]
    exact ih c h2 (hwr.ext he hb) (by rw [hwr.next]; exact hbn) ho2
  · rw [List.take_of_length_le (by omega)] at ho
    exact h0 h' he hbn ho

theorem scounts_ok {h : AHeap} (hlow : h.low ≤ h.next) {a : Option Addr} {n c : Nat} (hn : n ≤ 1000000) {l : List Int} (hs : Ints h .i64 a n l) {Q : Value → AHeap → Prop}
    (hQ : ∀ e c0 c1 c2 c3 c4 h', e = checkF l → Ext h h' → [c0, c1, c2, c3, c4] = (if e = 0 then counts l else [0, 0, 0, 0, 0]) → Q (.tuple #[.agg #[.int .i64 c0, .int .i64 c1, .int .i64 c2, .int .i64 c3, .int .i64 c4], .int .i64 e]) h') : call 30 [.slice a n c] h Q := by
  have hl := hs.len
  refine hA.bodyR Try.func30 r30_ok (hA.alike _ _ _ rfl) hlow ?_; (try (conv => cbv)); repeat (refine brk_ok hA ?_; (try (conv => cbv)))
  refine scheck_ok hA hlow hn hs (fun e he => ⟨_, rfl, ?_⟩)
  ((try (conv => cbv)); repeat (refine brk_ok hA ?_; (try (conv => cbv))))
  refine br (e ≠ 0) (e_neq hA _ _) (fun c => ?_) (fun c => ?_) <;> (try (conv => cbv)) <;> repeat (refine brk_ok hA ?_; (try (conv => cbv)))
  · exact hQ e _ _ _ _ _ _ he (.refl _) (by rw [if_neg c])
  · have c : e = 0 := Classical.not_not.1 c
    have hg : l.all good = true := by
      rw [he] at c; unfold checkF at c
      split at c
      · omega
      · split at c
        · assumption
        · omega
    have ho := Own.push h 5 ((counts []).map (.int .i64))
    rw [e_push hA, e_next hA]
    refine scounts_loop hA hlow hn hs hg (Nat.le_refl _) (fun h' he2 hb2 ho2 => ?_) 0 (by omega) (by omega) _ (.push _ _ _) (by simp [AHeap.push]) (by exact ho)
    ((try (conv => cbv)); repeat (refine brk_ok hA ?_; (try (conv => cbv))))
    have hr := ho2.readG (o := 0) (n := 5) (by simp [counts])
    refine ⟨_, _, _, _, _, rd_at hA (by rw [hr]; rfl), ?_⟩
    generalize h0 : cntF 0 l = c0
    generalize h1 : cntF 1 l = c1
    generalize h2 : cntF 2 l = c2
    generalize h3 : cntF 3 l = c3
    generalize h4 : cntF 4 l = c4
    ((try (conv => cbv)); repeat (refine brk_ok hA ?_; (try (conv => cbv))))
    have := hQ e c0 c1 c2 c3 c4 h' he he2 (by rw [if_pos c, ← h0, ← h1, ← h2, ← h3, ← h4]; rfl)
    rw [c] at this
    exact this

end Go.Proofs.Ytnokkniofajnhaa
