/-
  sample.Pack, fringeref13.Pack: what they return.
-/
import Derived.Test.YtcdoknkgbnaefaaPackLaw
namespace Go.Proofs.Ytcdoknkgbnaefaa
open Go.Sim
set_option linter.unusedVariables false
set_option maxRecDepth 100000

variable {call : FuncId → List Value → AHeap → (Value → AHeap → Prop) → Prop}
  {head : FuncId → Nat → Nat → SS → (Exit → SS → Prop) → Prop}
  {arith : BinOp → IntKind → Int → Int → Int}
  {cmp : BinOp → Int → Int → Bool}
  {scmp : BinOp → ByteArray → ByteArray → Bool}
  {bnot : Bool → Bool}
  {bsame : Bool → Bool → Bool}
  {conv : IntKind → Int → Int}
  {neg : IntKind → Int → Int}
  {imax : Int → Int → Int}
  {imin : Int → Int → Int}
  {ofNat : Nat → Int}
  {slen : ByteArray → Int}
  {place : Nat → Int → Nat → Nat}
  {inR : Int → Nat → Prop}
  {nz : Int → Prop}
  {geZ : Int → Prop}
  {rd : AHeap → Nat → Nat → Nat → List Value → Prop}
  {wr : AHeap → Nat → Nat → List Value → AHeap → Prop}
  {push : AHeap → Nat → List Value → AHeap}
  {next : AHeap → Nat}
  {mkOK : Int → Int → Prop}
  {nat : Int → Nat}
  {zeros : List Value → Int → List Value}
  {sadd : ByteArray → ByteArray → (ByteArray → Prop) → Prop}
  {eqAgg : TypeId → Array Value → Array Value → (Bool → Prop) → Prop}
  {cut : Nat → Int → Prop}
  {slc : TypeId → Value → Option Value → Option Value → Option Value → (Option Addr → Nat → Nat → Prop) → Prop}
  {sslc : TypeId → ByteArray → Option Value → Option Value → (ByteArray → Prop) → Prop}
  {strAt : ByteArray → Int → (Int → Prop) → Prop}
  {part : TypeId → Array Value → Nat → Value → Prop}
  {app : List TypeId → List Value → AHeap → (Option Addr → Nat → Nat → AHeap → Prop) → Prop}
  {cpy : List TypeId → List Value → AHeap → (Int → AHeap → Prop) → Prop}
  {putAt : AHeap → Nat → Nat → List Value → AHeap}
  {fresh : AHeap → AHeap}
  {lowered : AHeap → AHeap → AHeap}
  {bump : AHeap → Nat → AHeap}
  {wrote : AHeap → AHeap → Bool}
  {addN : Nat → Nat → Nat}
  {lt : Nat → Nat → Prop}
  {ne : Nat → Nat → Prop}
  {fpAll : Bool → Bool → Bool → Nat → Nat → Prop}
  (hA : AOK progU hint prims ⟨call, head, arith, cmp, scmp, bnot, bsame, conv, neg, imax, imin, ofNat, slen, place, inR, nz, geZ, rd, wr, push, next, mkOK, nat, zeros, sadd, eqAgg, cut, slc, sslc, strAt, part, app, cpy, putAt, fresh, lowered, bump, wrote, addN, lt, ne, fpAll⟩)
include hA

theorem length_ok (n : Int) (h0 : 0 ≤ n) (h1 : n ≤ 1000000) {h : AHeap} (hlow : h.low ≤ h.next) {Q : Value → AHeap → Prop} (hQ : ∀ r, r = (n + 2) / 3 → Q (.int .i64 r) h) : call 35 [.int .i64 n] h Q := by
  refine hA.bodyR Try.func35 r35_ok (show prims _ _ _ = none from rfl) hlow ?_; (conv => cbv)
  refine ⟨nz_ok hA (by omega), ?_⟩
  (conv => cbv)
  refine hQ _ ?_
  rw [add64 hA (by omega) (by omega), sub64 hA (by omega) (by omega), e_quo hA, Int.tdiv_eq_ediv_of_nonneg (by omega), wrap64 (by omega) (by omega)]
  omega

theorem pack_loop {h : AHeap} (hlow : h.low ≤ h.next) {a : Option Addr} {n c m : Nat} (hn : n ≤ 1000000) {l : List Int} (hs : Ints h .i64 a n l) (hg : l.all good = true) (hm : m = packN n) {b : Nat} (hb : h.next ≤ b) {Q : Exit → SS → Prop}
    (h0 : ∀ h', Ext h h' → b < h'.next → Own h' b 1 ((packL l).map (.int .u8)) → Q (.exit 0) ⟨[(5, .slice (some ⟨b, 0, none⟩) m m)], 0, [], h'⟩) :
    ∀ (i : Int), 0 ≤ i → i ≤ n → ∀ h' M, Ext h h' → b < h'.next → List.length M = m → (∀ j : Int, 0 ≤ j → j < m → at' M j = packS l i j) → Own h' b 1 (M.map (.int .u8)) → ∀ k, k = i - 1 → head 11 6 0 ⟨[(0, .slice a n c), (5, .slice (some ⟨b, 0, none⟩) m m), (6, .int .i64 k)], 0, [], h'⟩ Q := by
  have hl := hs.len
  refine countDown (fun i hi0 ih hin h' M he hbn hM hv ho k hk => ?_)
  refine hA.roundR Try.func11 r11_ok ?_; (conv => cbv)
  refine br (0 ≤ k) (e_geq hA _ _) (fun c => ?_) (fun c => ?_) <;> (conv => cbv)
  · obtain ⟨b1, o1, x, rfl, hb1, hx, hr⟩ := (hs.ext he).atI c (by omega)
    obtain ⟨q, hq⟩ : ∃ q, q = k / 3 := ⟨_, rfl⟩
    have hq2 : arith .quo .i64 k 3 = q := by rw [quo64 hA c (by omega) (by omega), hq]
    have hqm : 0 ≤ q ∧ q < m := by rw [hm]; unfold packN; omega
    obtain ⟨y, hy⟩ : ∃ y, y = at' M q := ⟨_, rfl⟩
    have hy2 := hv q hqm.1 hqm.2
    rw [← hy] at hy2
    have hyb := packS_bound l hg (i := i) hqm.1
    have hy24 := hyb.2.2 (by omega)
    rw [← hy2] at hyb hy24
    have hbl : (h'.bump 18).low ≤ (h'.bump 18).next := (Ext.bump h' 18).lowOK (he.lowOK hlow)
    have hrd := ho.getInt (i := q.toNat) (by omega)
    rw [show M.getD q.toNat 0 = y from hy.symm] at hrd
    refine ⟨nz_ok hA (by omega), nz_ok hA (by omega), ?_⟩
    rw [hq2]
    refine ⟨b, 0, rfl, in_ok hA hqm.1 hqm.2, ?_⟩
    (conv => cbv)
    refine ⟨y, rd_ok hA (by rw [e_bump hA, Nat.zero_add, Nat.mul_one]; exact hrd), ?_⟩
    (conv => cbv)
    refine ⟨b1, o1, rfl, in_ok hA c (by omega), ?_⟩
    (conv => cbv)
    refine ⟨x, rd_ok hA (by rw [e_bump hA]; exact hr), ?_⟩
    (conv => cbv)
    refine digit_ok hA _ (by rw [e_fresh hA]; exact freshed_low _) (fun r hd => ⟨_, rfl, ?_⟩)
    have hdk : r = dg l k := by rw [dg_at l (by omega), ← hx, hd]
    have hdb := dg_bound l hg c
    (conv => cbv)
    rw [backTo hA 18 (he.lowOK hlow), conv8 hA (by omega) (by omega), mul8 hA (by omega) (by omega), add8 hA (by omega) (by omega)]
    obtain ⟨h2, hw, ho2, hwr⟩ := (ho.ext (.bump h' 18) hbn).setInt (i := q.toNat) (by omega) (y * 5 + r)
    refine ⟨b, 0, rfl, in_ok hA hqm.1 hqm.2, ?_⟩
    (conv => cbv)
    refine ⟨h2, wr_ok hA (by rw [Nat.zero_add, Nat.mul_one]; exact hw), ?_⟩
    (conv => cbv)
    refine ⟨fp_ok' hA (by rw [e_fresh hA, e_bump hA]) (by rw [e_addN hA, e_next hA]; omega), ?_⟩
    rw [sub64 hA (by omega) (by omega)]
    refine ih (by omega) (by omega) h2 _ (hwr.ext (he.trans (.bump _ _)) hb) (by rw [hwr.next]; simp only [AHeap.bump]; omega) (by simp [hM]) (fun j hj0 hj1 => ?_) ho2 _ (by omega)
    rw [at'_set M hqm.1 hj0 (by omega)]
    have hst := packS_step l c
    rw [← hq, show k + 1 = i by omega] at hst
    split
    · rename_i e; rw [e, show i - 1 = k by omega, hst, hy2, hdk]
    · rename_i e
      rw [hv j hj0 hj1, show i - 1 = k by omega, packS_other l (i := k) (by omega), show k + 1 = i by omega]
  · have e : M = packL l := by
      refine packL_of (by rw [hM, hm, hl]) (fun j hj0 hj1 => ?_)
      rw [hv j hj0 (by rw [hm, ← hl]; exact hj1), packS_all l (by omega) hj0]
    rw [e] at ho
    exact h0 h' he hbn ho

theorem pack_ok {h : AHeap} (hlow : h.low ≤ h.next) {a : Option Addr} {n c : Nat} (hn : n ≤ 1000000) {l : List Int} (hs : Ints h .i64 a n l) {Q : Value → AHeap → Prop}
    (hQ : ∀ e a' n' c' h', e = checkF l → Ext h h' → Ints h' .u8 a' n' (if e = 0 then packL l else []) → Q (.tuple #[.slice a' n' c', .int .i64 e]) h') : call 11 [.slice a n c] h Q := by
  have hl := hs.len
  refine hA.bodyR Try.func11 r11_ok (show prims _ _ _ = none from rfl) hlow ?_; (conv => cbv)
  refine check_ok hA hlow hn hs (fun e he => ⟨_, rfl, ?_⟩)
  (conv => cbv)
  refine br (e ≠ 0) (e_neq hA _ _) (fun c => ?_) (fun c => ?_) <;> (conv => cbv)
  · exact hQ e _ _ _ _ he (.refl _) (by rw [if_neg c]; exact .nil _ _)
  · have c : e = 0 := Classical.not_not.1 c
    have hg : l.all good = true := by
      rw [he] at c; unfold checkF at c
      split at c
      · omega
      · split at c
        · assumption
        · omega
    refine length_ok hA _ (by rw [e_ofNat hA]; omega) (by rw [e_ofNat hA]; omega) hlow (fun r hr => ⟨_, rfl, ?_⟩)
    rw [e_ofNat hA] at hr
    (conv => cbv)
    refine ⟨mk_ok hA (by omega) (by omega) (by omega), ?_⟩
    (conv => cbv)
    have hrn : r.toNat = packN n := by unfold packN; omega
    have hz : zeros [.int .u8 0] r = (List.replicate (packN n) (0 : Int)).map (.int .u8) := by rw [e_zeros hA, copies_ints, hrn]
    have ho := Own.push h 1 ((List.replicate (packN n) (0 : Int)).map (.int .u8))
    rw [hz, e_push hA, e_next hA]
    refine pack_loop hA hlow hn hs hg (by rw [e_nat hA, hrn]) (Nat.le_refl _) (fun h' he2 hb2 ho2 => ?_) n (by omega) (by omega) _ _ (.push _ _ _) (by simp [AHeap.push]) (by rw [e_nat hA, hrn, List.length_replicate]) (fun j hj0 hj1 => ?_) ho _ (by rw [sub64 hA (by rw [e_ofNat hA]; omega) (by rw [e_ofNat hA]; omega), e_ofNat hA])
    · (conv => cbv)
      have := hQ e (some ⟨h.next, 0, none⟩) (nat r) (nat r) h' he he2 (by rw [if_pos c]; exact ho2.ints hb2 (by rw [e_nat hA, hrn]; unfold packL; simp [hl]))
      rw [c] at this
      exact this
    · rw [packS_none l (by omega)]
      unfold at'
      simp [List.getD_eq_getElem?_getD, List.getElem?_replicate]
      split <;> rfl

/-! ### The reference -/

theorem rpack_inner {h : AHeap} {a b4 : Option Addr} {n c n4 c4 : Nat} {i d R : Int} (hi0 : 0 ≤ i) (hi1 : i < 1000000) (hd : 0 ≤ d ∧ d ≤ 4) (hR : R = i % 3) {Q : Exit → SS → Prop}
    (h0 : ∀ e, e = d * pow3 R → Q (.exit 2) ⟨[(0, .slice a n c), (4, .slice b4 n4 c4), (5, .int .i64 i), (6, .int .i64 e)], 0, [], h⟩) :
    ∀ (k : Int), 0 ≤ k → k ≤ R.toNat → ∀ e, e = d * pow3 k → head 12 9 0 ⟨[(0, .slice a n c), (4, .slice b4 n4 c4), (5, .int .i64 i), (6, .int .i64 e), (7, .int .i64 k)], 0, [], h⟩ Q := by
  refine countUp (fun k hk0 hk1 ih e he => ?_)
  refine hA.roundR Try.func12 r12_ok ?_; (conv => cbv)
  refine ⟨nz_ok hA (by omega), ?_⟩
  (conv => cbv)
  refine br (k < R) (by rw [e_lss hA, rem64 hA hi0, hR]) (fun c => ?_) (fun c => ?_) <;> (conv => cbv)
  · have hk : k = 0 ∨ k = 1 := by omega
    have he2 : e ≤ 20 ∧ 0 ≤ e := by rw [he]; unfold pow3; rcases hk with rfl | rfl <;> simp <;> omega
    rw [mul64 hA (by omega) (by omega), add64 hA (by omega) (by omega)]
    refine ih (by omega) _ ?_
    rw [he]; unfold pow3
    rcases hk with rfl | rfl <;> simp <;> omega
  · have : k = R := by omega
    rw [this] at he
    exact h0 e he

theorem rpack_loop {h : AHeap} (hlow : h.low ≤ h.next) {a : Option Addr} {n c m : Nat} (hn : n ≤ 100000) {l : List Int} (hs : Ints h .i64 a n l) (hg : l.all good = true) (hm : m = packN n) {b : Nat} (hb : h.next ≤ b) {Q : Exit → SS → Prop}
    (h0 : ∀ h', Ext h h' → b < h'.next → Own h' b 1 ((packL l).map (.int .u8)) → Q (.exit 0) ⟨[(4, .slice (some ⟨b, 0, none⟩) m m)], 0, [], h'⟩) :
    ∀ (i : Int), 0 ≤ i → i ≤ n → ∀ h' M, Ext h h' → b < h'.next → List.length M = m → (∀ j : Int, 0 ≤ j → j < m → at' M j = packP l i j) → Own h' b 1 (M.map (.int .u8)) → head 12 5 0 ⟨[(0, .slice a n c), (4, .slice (some ⟨b, 0, none⟩) m m), (5, .int .i64 i)], 0, [], h'⟩ Q := by
  have hl := hs.len
  refine countUp (fun i hi0 hin ih h' M he hbn hM hv ho => ?_)
  refine hA.roundR Try.func12 r12_ok ?_; (conv => cbv)
  refine br (i < n) (by rw [e_lss hA, e_ofNat hA]) (fun c => ?_) (fun c => ?_) <;> (conv => cbv)
  · obtain ⟨b1, o1, x, rfl, hb1, hx, hr⟩ := (hs.ext he).atI hi0 (by omega)
    obtain ⟨q, hq⟩ : ∃ q, q = i / 3 := ⟨_, rfl⟩
    have hq2 : arith .quo .i64 i 3 = q := by rw [quo64 hA hi0 (by omega) (by omega), hq]
    have hqm : 0 ≤ q ∧ q < m := by rw [hm]; unfold packN; omega
    obtain ⟨y, hy⟩ : ∃ y, y = at' M q := ⟨_, rfl⟩
    have hy2 := hv q hqm.1 hqm.2
    rw [← hy] at hy2
    have hst := packP_step l hi0
    have hpb := packP_bound l hg (i := i + 1) hqm.1
    rw [← hq, ← hy2] at hst
    rw [hst] at hpb
    have hyb := packP_bound l hg (i := i) hqm.1
    rw [← hy2] at hyb
    have hrd := ho.getInt (i := q.toNat) (by omega)
    rw [show M.getD q.toNat 0 = y from hy.symm] at hrd
    refine ⟨b1, o1, rfl, in_ok hA hi0 (by omega), ?_⟩
    (conv => cbv)
    refine ⟨x, rd_ok hA hr, ?_⟩
    (conv => cbv)
    refine rdigit_ok hA _ (he.lowOK hlow) (fun r hd => ⟨_, rfl, ?_⟩)
    have hdk : r = dg l i := by rw [dg_at l (by omega), ← hx, hd]
    have hdb := dg_bound l hg hi0
    rw [← hdk] at hdb hst hpb
    (conv => cbv)
    refine rpack_inner hA hi0 (by omega) hdb rfl (fun e hee => ?_) 0 (by omega) (by omega) r (by simp [pow3])
    rw [← hee] at hst hpb
    have he0 : 0 ≤ e ∧ e ≤ 100 := by
      rw [hee]; unfold pow3; split
      · omega
      · split <;> omega
    (conv => cbv)
    refine ⟨nz_ok hA (by omega), ?_⟩
    (conv => cbv)
    rw [hq2]
    refine ⟨b, 0, rfl, in_ok hA hqm.1 hqm.2, ?_⟩
    (conv => cbv)
    refine ⟨y, rd_ok hA (by rw [Nat.zero_add, Nat.mul_one]; exact hrd), ?_⟩
    (conv => cbv)
    obtain ⟨h2, hw, ho2, hwr⟩ := ho.setInt (i := q.toNat) (by omega) (y + e)
    refine ⟨b, 0, rfl, in_ok hA hqm.1 hqm.2, ?_⟩
    (conv => cbv)
    rw [conv8 hA (by omega) (by omega), add8 hA (by omega) (by omega)]
    refine ⟨h2, wr_ok hA (by rw [Nat.zero_add, Nat.mul_one]; exact hw), ?_⟩
    (conv => cbv)
    rw [add64 hA (by omega) (by omega)]
    refine ih c h2 _ (hwr.ext he hb) (by rw [hwr.next]; exact hbn) (by simp [hM]) (fun j hj0 hj1 => ?_) ho2
    rw [at'_set M hqm.1 hj0 (by omega)]
    split
    · rename_i e'; rw [e', hst]
    · rename_i e'
      rw [hv j hj0 hj1, packP_other l (i := i) (by omega)]
  · have e : M = packL l := by
      refine packL_of (by rw [hM, hm, hl]) (fun j hj0 hj1 => ?_)
      rw [hv j hj0 (by rw [hm, ← hl]; exact hj1), packP_all l (by omega) hj0]
    rw [e] at ho
    exact h0 h' he hbn ho

theorem rpack_ok {h : AHeap} (hlow : h.low ≤ h.next) {a : Option Addr} {n c : Nat} (hn : n ≤ 100000) {l : List Int} (hs : Ints h .i64 a n l) {Q : Value → AHeap → Prop}
    (hQ : ∀ e a' n' c' h', e = checkF l → Ext h h' → Ints h' .u8 a' n' (if e = 0 then packL l else []) → Q (.tuple #[.slice a' n' c', .int .i64 e]) h') : call 12 [.slice a n c] h Q := by
  have hl := hs.len
  refine hA.bodyR Try.func12 r12_ok (show prims _ _ _ = none from rfl) hlow ?_; (conv => cbv)
  refine rcheck_ok hA hlow (by omega) hs (fun e he => ⟨_, rfl, ?_⟩)
  (conv => cbv)
  refine br (e ≠ 0) (e_neq hA _ _) (fun c => ?_) (fun c => ?_) <;> (conv => cbv)
  · refine rcheck_ok hA hlow (by omega) hs (fun e2 he2 => ⟨_, rfl, ?_⟩)
    (conv => cbv)
    have e3 : e2 = e := by rw [he, he2]
    rw [e3]
    exact hQ e _ _ _ _ he (.refl _) (by rw [if_neg c]; exact .nil _ _)
  · have c : e = 0 := Classical.not_not.1 c
    have hg : l.all good = true := by
      rw [he] at c; unfold checkF at c
      split at c
      · omega
      · split at c
        · assumption
        · omega
    obtain ⟨r, hr⟩ : ∃ r : Int, r = ((n : Int) + 2) / 3 := ⟨_, rfl⟩
    have hr2 : arith .quo .i64 (arith .add .i64 (ofNat n) 2) 3 = r := by
      rw [e_ofNat hA, add64 hA (by omega) (by omega), quo64 hA (by omega) (by omega) (by omega), hr]
    refine ⟨nz_ok hA (by omega), ?_⟩
    rw [hr2]
    refine ⟨mk_ok hA (by omega) (by omega) (by omega), ?_⟩
    (conv => cbv)
    have hrn : r.toNat = packN n := by unfold packN; omega
    have hz : zeros [.int .u8 0] r = (List.replicate (packN n) (0 : Int)).map (.int .u8) := by rw [e_zeros hA, copies_ints, hrn]
    have ho := Own.push h 1 ((List.replicate (packN n) (0 : Int)).map (.int .u8))
    rw [hz, e_push hA, e_next hA]
    refine rpack_loop hA hlow hn hs hg (by rw [e_nat hA, hrn]) (Nat.le_refl _) (fun h' he2 hb2 ho2 => ?_) 0 (by omega) (by omega) _ _ (.push _ _ _) (by simp [AHeap.push]) (by rw [e_nat hA, hrn, List.length_replicate]) (fun j hj0 hj1 => ?_) ho
    · (conv => cbv)
      have := hQ e (some ⟨h.next, 0, none⟩) (nat r) (nat r) h' he he2 (by rw [if_pos c]; exact ho2.ints hb2 (by rw [e_nat hA, hrn]; unfold packL; simp [hl]))
      rw [c] at this
      exact this
    · rw [packP_none l hj0]
      unfold at'
      simp [List.getD_eq_getElem?_getD, List.getElem?_replicate]
      split <;> rfl

end Go.Proofs.Ytcdoknkgbnaefaa
