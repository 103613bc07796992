/-
  fringelaw13.SampleOrder in the abstract machine: true.
-/
import Derived.Test.YtcdoknkgbnaefaaTake
namespace Go.Proofs.Ytcdoknkgbnaefaa
open Go.Sim
set_option linter.unusedVariables false
set_option maxRecDepth 100000

theorem takeV_good (t x : Int) : good (takeV t x) = true := by
  unfold good takeV
  rcases big_vals t x with h | h <;> rw [h] <;> split <;> rfl
theorem sgn_takeV (t x : Int) : sgn (takeV t x) = if x < 0 then -1 else 1 := by
  unfold sgn takeV
  rcases big_vals t x with h | h <;> rw [h] <;> by_cases hx : x < 0 <;> simp [hx]
theorem sgn_good (x : Int) : good (sgn x) = true := by
  unfold sgn
  split
  · rfl
  split <;> rfl
theorem sgn_sgn (x : Int) : sgn (sgn x) = sgn x := by
  unfold sgn
  by_cases h : x < 0
  · simp [h]
  · by_cases h2 : 0 < x <;> simp [h, h2]
theorem check_takes (t : Int) {l : List Int} (h : l.length ≤ 256) : checkF (l.map (takeV t)) = 0 := by
  unfold checkF
  rw [if_neg (by simp; omega), if_pos]
  rw [List.all_map, List.all_eq_true]
  exact fun x _ => takeV_good t x
theorem check_sgns (f : Int → Int) {l : List Int} (h : l.length ≤ 256) : checkF ((l.map f).map sgn) = 0 := by
  unfold checkF
  rw [if_neg (by simp; omega), if_pos]
  rw [List.all_map, List.all_eq_true]
  exact fun x _ => sgn_good _
theorem take_more {t m x : Int} (hm : 0 ≤ m) : takeV (t + m) x * takeV (t + m) x ≤ takeV t x * takeV (t + m) x := by
  have key : big (t + m) x = 3 → big t x = 3 := by
    unfold big
    generalize (if -x > x then -x else x) = y
    intro h
    by_cases h1 : t ≤ y
    · exact if_pos h1
    · rw [if_neg (by omega)] at h; omega
  unfold takeV
  rcases big_vals t x with h | h <;> rcases big_vals (t + m) x with h2 | h2 <;> rw [h, h2]
  · split <;> decide
  · have := key h2; omega
  · split <;> decide
  · split <;> decide
theorem take_neg {t x : Int} (h : x ≠ 0) : takeV t (-x) = -(takeV t x) := by
  have hb : big t (-x) = big t x := by
    unfold big
    have : (if - -x > -x then - -x else -x) = (if -x > x then -x else x) := by
      by_cases h1 : -x > x
      · rw [if_pos h1, if_neg (by omega)]
      · rw [if_neg h1, if_pos (by omega)]; omega
    rw [this]
  unfold takeV
  rw [hb]
  by_cases h1 : x < 0
  · rw [if_pos h1, if_neg (by omega)]; omega
  · rw [if_neg h1, if_pos (by omega)]
theorem take_zero {t : Int} (h : 1 ≤ t) : takeV t 0 = 1 := by
  unfold takeV big
  rw [if_neg (by omega), if_neg (by simp; omega)]
theorem takeV_small (t x : Int) : -3 ≤ takeV t x ∧ takeV t x ≤ 3 := by
  unfold takeV
  rcases big_vals t x with h | h <;> rw [h] <;> split <;> omega
theorem levE_zero {l : List Int} (h : levE l = 0) : l.length ≤ 256 ∧ l.all lev = true := by
  unfold levE at h
  split at h
  · omega
  split at h
  · rename_i h1 h2; exact ⟨by omega, h2⟩
  · omega
theorem levE_neg {l : List Int} (h : levE l = 0) : levE (l.map (fun x => -x)) = 0 := by
  obtain ⟨h1, h2⟩ := levE_zero h
  unfold levE
  rw [if_neg (by simp; omega), if_pos]
  rw [List.all_map, List.all_eq_true]
  intro x hx
  have := List.all_eq_true.1 h2 x hx
  unfold lev at this ⊢
  simp only [Function.comp, decide_eq_true_eq] at this ⊢
  omega
theorem mul_in {a b : Int} (h1 : -3 ≤ a ∧ a ≤ 3) (h2 : -3 ≤ b ∧ b ≤ 3) : -9 ≤ a * b ∧ a * b ≤ 9 := by
  have ha : a = -3 ∨ a = -2 ∨ a = -1 ∨ a = 0 ∨ a = 1 ∨ a = 2 ∨ a = 3 := by omega
  rcases ha with rfl | rfl | rfl | rfl | rfl | rfl | rfl <;> omega

variable {call : FuncId → List Value → AHeap → (Value → AHeap → Prop) → Prop}
  {head : FuncId → Nat → Nat → SS → (Exit → SS → Prop) → Prop}
  {arith : BinOp → IntKind → Int → Int → Int}
  {cmp : BinOp → Int → Int → Bool}
  {scmp : BinOp → ByteArray → ByteArray → Bool}
  {bnot : Bool → Bool}
  {bsame : Bool → Bool → Bool}
  {conv : IntKind → Int → Int}
  {neg : IntKind → Int → Int}
  {imax : Int → Int → Int}
  {imin : Int → Int → Int}
  {ofNat : Nat → Int}
  {slen : ByteArray → Int}
  {place : Nat → Int → Nat → Nat}
  {inR : Int → Nat → Prop}
  {nz : Int → Prop}
  {geZ : Int → Prop}
  {rd : AHeap → Nat → Nat → Nat → List Value → Prop}
  {wr : AHeap → Nat → Nat → List Value → AHeap → Prop}
  {push : AHeap → Nat → List Value → AHeap}
  {next : AHeap → Nat}
  {mkOK : Int → Int → Prop}
  {nat : Int → Nat}
  {zeros : List Value → Int → List Value}
  {sadd : ByteArray → ByteArray → (ByteArray → Prop) → Prop}
  {eqAgg : TypeId → Array Value → Array Value → (Bool → Prop) → Prop}
  {cut : Nat → Int → Prop}
  {slc : TypeId → Value → Option Value → Option Value → Option Value → (Option Addr → Nat → Nat → Prop) → Prop}
  {sslc : TypeId → ByteArray → Option Value → Option Value → (ByteArray → Prop) → Prop}
  {strAt : ByteArray → Int → (Int → Prop) → Prop}
  {part : TypeId → Array Value → Nat → Value → Prop}
  {app : List TypeId → List Value → AHeap → (Option Addr → Nat → Nat → AHeap → Prop) → Prop}
  {cpy : List TypeId → List Value → AHeap → (Int → AHeap → Prop) → Prop}
  {putAt : AHeap → Nat → Nat → List Value → AHeap}
  {fresh : AHeap → AHeap}
  {lowered : AHeap → AHeap → AHeap}
  {bump : AHeap → Nat → AHeap}
  {wrote : AHeap → AHeap → Bool}
  {addN : Nat → Nat → Nat}
  {lt : Nat → Nat → Prop}
  {ne : Nat → Nat → Prop}
  {fpAll : Bool → Bool → Bool → Nat → Nat → Prop}
  {brk : (Unit → Prop) → Prop}
  (hA : AOK progU hint prims ⟨call, head, arith, cmp, scmp, bnot, bsame, conv, neg, imax, imin, ofNat, slen, place, inR, nz, geZ, rd, wr, push, next, mkOK, nat, zeros, sadd, eqAgg, cut, slc, sslc, strAt, part, app, cpy, putAt, fresh, lowered, bump, wrote, addN, lt, ne, fpAll, brk⟩)
include hA

theorem alive_ok' {h : AHeap} {Q : Value → AHeap → Prop} (hQ : Q (.bool true) h) : call 29 [] h Q := hA.prim (v := .bool true) (h' := h) rfl hQ

theorem order_loop1 {h : AHeap} (hlow : h.low ≤ h.next) {a ax ay : Option Addr} {n c cx cy : Nat} (hn : n ≤ 256) {l : List Int} (hs : Ints h .i64 a n l) (hlev : l.all lev = true) {t m : Int} (hm : 0 ≤ m) (hx : Ints h .i64 ax n (l.map (takeV t))) (hy : Ints h .i64 ay n (l.map (takeV (t + m)))) {Q : Exit → SS → Prop}
    (h0 : ∀ h' a' c', Ext h h' → Apd h' 1 a' n c' ((l.map (fun x => -x)).map (.int .i64)) → Q (.exit 0) ⟨[(0, .slice a n c), (1, .int .i64 t), (7, .bool true), (8, .slice ax n cx), (18, .slice a' n c')], 0, [], h'⟩) :
    ∀ (i : Int), 0 ≤ i → i ≤ n → ∀ h' a' (k : Nat) c', (k : Int) = i → Ext h h' → From h.next a' → Apd h' 1 a' k c' (((l.map (fun x => -x)).take i.toNat).map (.int .i64)) →
      head 7 13 0 ⟨[(0, .slice a n c), (1, .int .i64 t), (7, .bool true), (8, .slice ax n cx), (10, .slice ay n cy), (18, .slice a' k c'), (19, .int .i64 i)], 0, [], h'⟩ Q := by
  have hl := hs.len
  refine countUp (fun i hi0 hin ih h' a' k c' hk he hf ha => ?_)
  refine hA.roundR Try.func7 r7_ok ?_; (try (conv => cbv)); repeat (refine brk_ok hA ?_; (try (conv => cbv)))
  refine br (i < n) (by rw [e_lss hA, e_ofNat hA]) (fun c1 => ?_) (fun c1 => ?_) <;> (try (conv => cbv)) <;> repeat (refine brk_ok hA ?_; (try (conv => cbv)))
  · obtain ⟨b1, o1, v, rfl, hb1, hv, hr⟩ := (hs.ext he).atI hi0 c1
    obtain ⟨b2, o2, x, rfl, hb2, hvx, hr2⟩ := (hx.ext he).atI hi0 c1
    obtain ⟨b3, o3, y, rfl, hb3, hvy, hr3⟩ := (hy.ext he).atI hi0 c1
    rw [at'_map _ l hi0 (by omega), ← hv] at hvx hvy
    have hlx := List.all_eq_true.1 hlev _ (at'_mem l hi0 (by omega))
    rw [← hv] at hlx
    unfold lev at hlx
    simp only [decide_eq_true_eq] at hlx
    have sx := takeV_small t v
    have sy := takeV_small (t + m) v
    rw [← hvx] at sx
    rw [← hvy] at sy
    have m1 := mul_in sx sy
    have m2 := mul_in sy sy
    have mm : y * y ≤ x * y := by rw [hvx, hvy]; exact take_more hm
    have ht := take_succ' (l.map (fun x => -x)) hi0 (by simp; omega)
    rw [at'_map _ l hi0 (by omega), ← hv] at ht
    have eb : Ext h (bump h' 19) := by rw [e_bump hA]; exact he.trans (.bump _ _)
    refine ⟨b2, o2, rfl, in_ok hA hi0 c1, ?_⟩
    ((try (conv => cbv)); repeat (refine brk_ok hA ?_; (try (conv => cbv))))
    refine ⟨x, rd_ok hA (by rw [e_bump hA]; exact hr2), ?_⟩
    ((try (conv => cbv)); repeat (refine brk_ok hA ?_; (try (conv => cbv))))
    refine ⟨b3, o3, rfl, in_ok hA hi0 c1, ?_⟩
    ((try (conv => cbv)); repeat (refine brk_ok hA ?_; (try (conv => cbv))))
    refine ⟨y, rd_ok hA (by rw [e_bump hA]; exact hr3), ?_⟩
    ((try (conv => cbv)); repeat (refine brk_ok hA ?_; (try (conv => cbv))))
    refine ⟨b3, o3, rfl, in_ok hA hi0 c1, ?_⟩
    ((try (conv => cbv)); repeat (refine brk_ok hA ?_; (try (conv => cbv))))
    refine ⟨y, rd_ok hA (by rw [e_bump hA]; exact hr3), ?_⟩
    ((try (conv => cbv)); repeat (refine brk_ok hA ?_; (try (conv => cbv))))
    refine ⟨b3, o3, rfl, in_ok hA hi0 c1, ?_⟩
    ((try (conv => cbv)); repeat (refine brk_ok hA ?_; (try (conv => cbv))))
    refine ⟨y, rd_ok hA (by rw [e_bump hA]; exact hr3), ?_⟩
    ((try (conv => cbv)); repeat (refine brk_ok hA ?_; (try (conv => cbv))))
    refine br (x * y < y * y) (by rw [e_lss hA, mul64 hA (by omega) (by omega), mul64 hA (by omega) (by omega)]) (fun c2 => absurd c2 (by omega)) (fun c2 => ?_) <;> (try (conv => cbv)) <;> repeat (refine brk_ok hA ?_; (try (conv => cbv)))
    refine ⟨b1, o1, rfl, in_ok hA hi0 c1, ?_⟩
    ((try (conv => cbv)); repeat (refine brk_ok hA ?_; (try (conv => cbv))))
    refine ⟨v, rd_ok hA (by rw [e_bump hA]; exact hr), ?_⟩
    ((try (conv => cbv)); repeat (refine brk_ok hA ?_; (try (conv => cbv))))
    have hng : neg .i64 v = -v := by rw [e_neg hA, wrap64 (by omega) (by omega)]; omega
    rw [hng]
    have ha2 : Apd (bump h' 19) 1 a' k c' (((l.map (fun x => -x)).take i.toNat).map (.int .i64)) := by rw [e_bump hA]; exact ha.ext (.bump _ _)
    refine app1_ok hA ha2 (by omega) (fun a3 c3 h3 ha3 hE => ?_)
    ((try (conv => cbv)); repeat (refine brk_ok hA ?_; (try (conv => cbv))))
    obtain ⟨e3, f3⟩ := hE h eb hf
    rw [add64 hA (by omega) (by omega)]
    exact ih c1 h3 a3 (k + 1) c3 (by omega) e3 f3 (by rw [ht]; exact ha3)
  · have e : k = n := by omega
    subst e
    rw [List.take_of_length_le (by simp; omega)] at ha
    exact h0 h' a' c' he ha

theorem order_loop2 {h : AHeap} (hlow : h.low ≤ h.next) {a ax az : Option Addr} {n c cx cz : Nat} (hn : n ≤ 256) {l : List Int} (hs : Ints h .i64 a n l) {t : Int} (ht : 1 ≤ t) (hx : Ints h .i64 ax n (l.map (takeV t))) (hz : Ints h .i64 az n ((l.map (fun x => -x)).map (takeV t))) {Q : Exit → SS → Prop}
    (h0 : ∀ h', Ext h h' → Q (.exit 2) ⟨[(7, .bool true)], 0, [], h'⟩) :
    ∀ (i : Int), 0 ≤ i → i ≤ n → ∀ h', Ext h h' →
      head 7 22 0 ⟨[(0, .slice a n c), (7, .bool true), (8, .slice ax n cx), (20, .slice az n cz), (22, .int .i64 i)], 0, [], h'⟩ Q := by
  have hl := hs.len
  refine countUp (fun i hi0 hin ih h' he => ?_)
  refine hA.roundR Try.func7 r7_ok ?_; (try (conv => cbv)); repeat (refine brk_ok hA ?_; (try (conv => cbv)))
  refine br (i < n) (by rw [e_lss hA, e_ofNat hA]) (fun c1 => ?_) (fun c1 => ?_) <;> (try (conv => cbv)) <;> repeat (refine brk_ok hA ?_; (try (conv => cbv)))
  · obtain ⟨b1, o1, v, rfl, hb1, hv, hr⟩ := (hs.ext he).atI hi0 c1
    obtain ⟨b2, o2, x, rfl, hb2, hvx, hr2⟩ := (hx.ext he).atI hi0 c1
    obtain ⟨b3, o3, z, rfl, hb3, hvz, hr3⟩ := (hz.ext he).atI hi0 c1
    rw [at'_map _ l hi0 (by omega), ← hv] at hvx
    rw [at'_map _ _ hi0 (by simp; omega), at'_map _ l hi0 (by omega), ← hv] at hvz
    have sx := takeV_small t v
    rw [← hvx] at sx
    have eb : Ext h (bump h' 38) := by rw [e_bump hA]; exact he.trans (.bump _ _)
    have hng : neg .i64 x = -x := by rw [e_neg hA, wrap64 (by omega) (by omega)]; omega
    refine ⟨b1, o1, rfl, in_ok hA hi0 c1, ?_⟩
    ((try (conv => cbv)); repeat (refine brk_ok hA ?_; (try (conv => cbv))))
    refine ⟨v, rd_ok hA (by rw [e_bump hA]; exact hr), ?_⟩
    ((try (conv => cbv)); repeat (refine brk_ok hA ?_; (try (conv => cbv))))
    refine br (v ≠ 0) (e_neq hA _ _) (fun c2 => ?_) (fun c2 => ?_) <;> (try (conv => cbv)) <;> repeat (refine brk_ok hA ?_; (try (conv => cbv)))
    · refine ⟨b3, o3, rfl, in_ok hA hi0 c1, ?_⟩
      ((try (conv => cbv)); repeat (refine brk_ok hA ?_; (try (conv => cbv))))
      refine ⟨z, rd_ok hA (by rw [e_bump hA]; exact hr3), ?_⟩
      ((try (conv => cbv)); repeat (refine brk_ok hA ?_; (try (conv => cbv))))
      refine ⟨b2, o2, rfl, in_ok hA hi0 c1, ?_⟩
      ((try (conv => cbv)); repeat (refine brk_ok hA ?_; (try (conv => cbv))))
      refine ⟨x, rd_ok hA (by rw [e_bump hA]; exact hr2), ?_⟩
      ((try (conv => cbv)); repeat (refine brk_ok hA ?_; (try (conv => cbv))))
      rw [hng]
      have hzx : z = -x := by rw [hvz, hvx]; exact take_neg c2
      refine br (z ≠ -x) (e_neq hA _ _) (fun c3 => absurd hzx c3) (fun c3 => ?_) <;> (try (conv => cbv)) <;> repeat (refine brk_ok hA ?_; (try (conv => cbv)))
      refine ⟨b1, o1, rfl, in_ok hA hi0 c1, ?_⟩
      ((try (conv => cbv)); repeat (refine brk_ok hA ?_; (try (conv => cbv))))
      refine ⟨v, rd_ok hA (by rw [e_bump hA]; exact hr), ?_⟩
      ((try (conv => cbv)); repeat (refine brk_ok hA ?_; (try (conv => cbv))))
      refine br (v = 0) (e_eql hA _ _) (fun c4 => absurd c4 c2) (fun c4 => ?_) <;> (try (conv => cbv)) <;> repeat (refine brk_ok hA ?_; (try (conv => cbv)))
      rw [add64 hA (by omega) (by omega)]
      exact ih c1 _ eb
    · have v0 : v = 0 := by omega
      subst v0
      have hx1 : x = 1 := by rw [hvx]; exact take_zero ht
      have hz1 : z = 1 := by rw [hvz]; exact take_zero ht
      refine ⟨b1, o1, rfl, in_ok hA hi0 c1, ?_⟩
      ((try (conv => cbv)); repeat (refine brk_ok hA ?_; (try (conv => cbv))))
      refine ⟨0, rd_ok hA (by rw [e_bump hA]; exact hr), ?_⟩
      ((try (conv => cbv)); repeat (refine brk_ok hA ?_; (try (conv => cbv))))
      refine br ((0 : Int) = 0) (e_eql hA _ _) (fun c4 => ?_) (fun c4 => absurd rfl c4) <;> (try (conv => cbv)) <;> repeat (refine brk_ok hA ?_; (try (conv => cbv)))
      refine ⟨b3, o3, rfl, in_ok hA hi0 c1, ?_⟩
      ((try (conv => cbv)); repeat (refine brk_ok hA ?_; (try (conv => cbv))))
      refine ⟨z, rd_ok hA (by rw [e_bump hA]; exact hr3), ?_⟩
      ((try (conv => cbv)); repeat (refine brk_ok hA ?_; (try (conv => cbv))))
      refine br (z ≠ 1) (e_neq hA _ _) (fun c5 => absurd hz1 c5) (fun c5 => ?_) <;> (try (conv => cbv)) <;> repeat (refine brk_ok hA ?_; (try (conv => cbv)))
      refine ⟨b2, o2, rfl, in_ok hA hi0 c1, ?_⟩
      ((try (conv => cbv)); repeat (refine brk_ok hA ?_; (try (conv => cbv))))
      refine ⟨x, rd_ok hA (by rw [e_bump hA]; exact hr2), ?_⟩
      ((try (conv => cbv)); repeat (refine brk_ok hA ?_; (try (conv => cbv))))
      refine br (x ≠ 1) (e_neq hA _ _) (fun c6 => absurd hx1 c6) (fun c6 => ?_) <;> (try (conv => cbv)) <;> repeat (refine brk_ok hA ?_; (try (conv => cbv)))
      rw [add64 hA (by omega) (by omega)]
      exact ih c1 _ eb
  · exact h0 h' he

theorem order_ok {h : AHeap} (hlow : h.low ≤ h.next) {a : Option Addr} {n c : Nat} {l : List Int} (hs : Ints h .i64 a n l) (t m : Int) (ht : t < 9223372036854775808) {Q : Value → AHeap → Prop} (hQ : ∀ h', Ext h h' → Q (.bool true) h') : call 7 [.slice a n c, .int .i64 t, .int .i64 m] h Q := by
  have hl := hs.len
  have bt := e_bnot hA true
  refine hA.bodyR Try.func7 r7_ok (show prims _ _ _ = none from rfl) hlow ?_; (try (conv => cbv)); repeat (refine brk_ok hA ?_; (try (conv => cbv)))
  refine alive_ok' hA ⟨_, rfl, ?_⟩
  ((try (conv => cbv)); repeat (refine brk_ok hA ?_; (try (conv => cbv))))
  refine long_ok hA hlow (fun r hr => ⟨_, rfl, ?_⟩)
  ((try (conv => cbv)); repeat (refine brk_ok hA ?_; (try (conv => cbv))))
  refine br (300 < (n : Int)) hr (fun c => ?_) (fun c => ?_) <;> (try (conv => cbv)) <;> repeat (refine brk_ok hA ?_; (try (conv => cbv)))
  · exact hQ _ (.refl _)
  refine levels_ok hA hlow (by omega) hs (fun r1 hr1 => ⟨_, rfl, ?_⟩)
  ((try (conv => cbv)); repeat (refine brk_ok hA ?_; (try (conv => cbv))))
  refine br (r1 ≠ 0) (e_neq hA _ _) (fun c1 => ?_) (fun c1 => ?_) <;> (try (conv => cbv)) <;> repeat (refine brk_ok hA ?_; (try (conv => cbv)))
  · exact hQ _ (.refl _)
  have hz : levE l = 0 := by omega
  obtain ⟨h256, hlev⟩ := levE_zero hz
  refine br (t < 1) (e_lss hA _ _) (fun c2 => ?_) (fun c2 => ?_) <;> (try (conv => cbv)) <;> repeat (refine brk_ok hA ?_; (try (conv => cbv)))
  · exact hQ _ (.refl _)
  refine br (m < 0) (e_lss hA _ _) (fun c3 => ?_) (fun c3 => ?_) <;> (try (conv => cbv)) <;> repeat (refine brk_ok hA ?_; (try (conv => cbv)))
  · exact hQ _ (.refl _)
  refine br (1000000 - t < m) (by rw [e_gtr hA, sub64 hA (by omega) (by omega)]) (fun c4 => ?_) (fun c4 => ?_) <;> (try (conv => cbv)) <;> repeat (refine brk_ok hA ?_; (try (conv => cbv)))
  · exact hQ _ (.refl _)
  rw [bt]
  ((try (conv => cbv)); repeat (refine brk_ok hA ?_; (try (conv => cbv))))
  have tE : ∀ (L : List Int) (s : Int), levE L = 0 → 1 ≤ s → s ≤ 1000000 → takeE L s = 0 := fun L s h1 h2 h3 => by unfold takeE; rw [if_pos h1, if_neg (by omega)]
  refine take_ok hA hlow (by omega) hs t (fun e1 a1 n1 k1 h1 hc1 x1 z1 => ⟨_, _, _, _, rfl, ?_⟩)
  rw [tE l t hz (by omega) (by omega)] at hc1
  subst hc1
  rw [if_pos rfl] at z1
  ((try (conv => cbv)); repeat (refine brk_ok hA ?_; (try (conv => cbv))))
  rw [add64 hA (by omega) (by omega)]
  refine take_ok hA (x1.lowOK hlow) (by omega) (hs.ext x1) (t + m) (fun e2 a2 n2 k2 h2 hc2 x2 z2 => ⟨_, _, _, _, rfl, ?_⟩)
  rw [tE l (t + m) hz (by omega) (by omega)] at hc2
  subst hc2
  rw [if_pos rfl] at z2
  ((try (conv => cbv)); repeat (refine brk_ok hA ?_; (try (conv => cbv))))
  have t2 := x1.trans x2
  have en1 : n1 = n := by have := z1.len; rw [List.length_map] at this; omega
  have en2 : n2 = n := by have := z2.len; rw [List.length_map] at this; omega
  subst en1
  subst en2
  refine sign_ok hA (t2.lowOK hlow) (by omega) (z1.ext x2) (fun e3 a3 n3 k3 h3 hc3 x3 z3 => ⟨_, _, _, _, rfl, ?_⟩)
  rw [check_takes t h256] at hc3
  subst hc3
  rw [if_pos rfl] at z3
  ((try (conv => cbv)); repeat (refine brk_ok hA ?_; (try (conv => cbv))))
  have t3 := t2.trans x3
  refine sign_ok hA (t3.lowOK hlow) (by omega) (z2.ext x3) (fun e4 a4 n4 k4 h4 hc4 x4 z4 => ⟨_, _, _, _, rfl, ?_⟩)
  rw [check_takes (t + m) h256] at hc4
  subst hc4
  rw [if_pos rfl] at z4
  ((try (conv => cbv)); repeat (refine brk_ok hA ?_; (try (conv => cbv))))
  have t4 := t3.trans x4
  have l3 := z3.len
  rw [List.length_map, List.length_map] at l3
  have l4 := z4.len
  rw [List.length_map, List.length_map] at l4
  refine sign_ok hA (t4.lowOK hlow) (by omega) (z3.ext x4) (fun e5 a5 n5 k5 h5 hc5 x5 z5 => ⟨_, _, _, _, rfl, ?_⟩)
  rw [check_sgns _ h256] at hc5
  subst hc5
  rw [if_pos rfl] at z5
  ((try (conv => cbv)); repeat (refine brk_ok hA ?_; (try (conv => cbv))))
  have t5 := t4.trans x5
  have l5 := z5.len
  rw [List.length_map, List.length_map, List.length_map] at l5
  have eq1 : (l.map (takeV t)).map sgn = (l.map (takeV (t + m))).map sgn := by
    rw [List.map_map, List.map_map]
    exact List.map_congr_left fun x _ => by simp only [Function.comp, sgn_takeV]
  have eq2 : ((l.map (takeV t)).map sgn).map sgn = (l.map (takeV t)).map sgn := by
    rw [List.map_map]
    exact List.map_congr_left fun x _ => by simp only [Function.comp, sgn_sgn]
  refine br ((0 : Int) ≠ 0) (e_neq hA _ _) (fun d => absurd rfl d) (fun d => ?_) <;> (try (conv => cbv)) <;> repeat (refine brk_ok hA ?_; (try (conv => cbv)))
  refine br ((0 : Int) ≠ 0) (e_neq hA _ _) (fun d => absurd rfl d) (fun d => ?_) <;> (try (conv => cbv)) <;> repeat (refine brk_ok hA ?_; (try (conv => cbv)))
  refine br ((0 : Int) ≠ 0) (e_neq hA _ _) (fun d => absurd rfl d) (fun d => ?_) <;> (try (conv => cbv)) <;> repeat (refine brk_ok hA ?_; (try (conv => cbv)))
  refine br ((0 : Int) ≠ 0) (e_neq hA _ _) (fun d => absurd rfl d) (fun d => ?_) <;> (try (conv => cbv)) <;> repeat (refine brk_ok hA ?_; (try (conv => cbv)))
  refine br ((0 : Int) ≠ 0) (e_neq hA _ _) (fun d => absurd rfl d) (fun d => ?_) <;> (try (conv => cbv)) <;> repeat (refine brk_ok hA ?_; (try (conv => cbv)))
  refine br (ofNat n2 ≠ ofNat n2) (e_neq hA _ _) (fun d => absurd rfl d) (fun d => ?_) <;> (try (conv => cbv)) <;> repeat (refine brk_ok hA ?_; (try (conv => cbv)))
  refine br (ofNat n2 ≠ ofNat n2) (e_neq hA _ _) (fun d => absurd rfl d) (fun d => ?_) <;> (try (conv => cbv)) <;> repeat (refine brk_ok hA ?_; (try (conv => cbv)))
  refine same_ok hA (t5.lowOK hlow) (by omega) (z3.ext (x4.trans x5)) (z4.ext x5) (fun r6 hr6 h6 x6 => ⟨_, rfl, ?_⟩)
  have q6 : r6 = true := by rw [hr6, eq1]; simp
  subst q6
  ((try (conv => cbv)); repeat (refine brk_ok hA ?_; (try (conv => cbv))))
  rw [bt]
  ((try (conv => cbv)); repeat (refine brk_ok hA ?_; (try (conv => cbv))))
  have t6 := t5.trans x6
  refine same_ok hA (t6.lowOK hlow) (by omega) (z3.ext (x4.trans (x5.trans x6))) (z5.ext x6) (fun r7 hr7 h7 x7 => ⟨_, rfl, ?_⟩)
  have q7 : r7 = true := by rw [hr7, eq2]; simp
  subst q7
  ((try (conv => cbv)); repeat (refine brk_ok hA ?_; (try (conv => cbv))))
  rw [bt]
  ((try (conv => cbv)); repeat (refine brk_ok hA ?_; (try (conv => cbv))))
  have t7 := t6.trans x7
  refine order_loop1 hA (t7.lowOK hlow) (by omega) (hs.ext t7) hlev (by omega) (z1.ext (x2.trans (x3.trans (x4.trans (x5.trans (x6.trans x7)))))) (z2.ext (x3.trans (x4.trans (x5.trans (x6.trans x7))))) (fun h8 a8 c8 x8 ha8 => ?_) 0 (by omega) (by omega) h7 none 0 0 rfl (.refl _) (.none _) (.nil _ _)
  ((try (conv => cbv)); repeat (refine brk_ok hA ?_; (try (conv => cbv))))
  have t8 := t7.trans x8
  refine take_ok hA (t8.lowOK hlow) (by omega) ⟨ha8.cells⟩ t (fun e9 a9 n9 k9 h9 hc9 x9 z9 => ⟨_, _, _, _, rfl, ?_⟩)
  rw [tE _ t (levE_neg hz) (by omega) (by omega)] at hc9
  subst hc9
  rw [if_pos rfl] at z9
  ((try (conv => cbv)); repeat (refine brk_ok hA ?_; (try (conv => cbv))))
  have t9 := t8.trans x9
  have en9 : n9 = n2 := by have := z9.len; rw [List.length_map, List.length_map] at this; omega
  subst en9
  refine br ((0 : Int) ≠ 0) (e_neq hA _ _) (fun d => absurd rfl d) (fun d => ?_) <;> (try (conv => cbv)) <;> repeat (refine brk_ok hA ?_; (try (conv => cbv)))
  refine br (ofNat n9 ≠ ofNat n9) (e_neq hA _ _) (fun d => absurd rfl d) (fun d => ?_) <;> (try (conv => cbv)) <;> repeat (refine brk_ok hA ?_; (try (conv => cbv)))
  refine order_loop2 hA (t9.lowOK hlow) (by omega) (hs.ext t9) (by omega) (z1.ext (x2.trans (x3.trans (x4.trans (x5.trans (x6.trans (x7.trans (x8.trans x9)))))))) z9 (fun h10 x10 => ?_) 0 (by omega) (by omega) h9 (.refl _)
  ((try (conv => cbv)); repeat (refine brk_ok hA ?_; (try (conv => cbv))))
  exact hQ h10 (t9.trans x10)

end Go.Proofs.Ytcdoknkgbnaefaa
