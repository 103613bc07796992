/-
  fringeref13.Unpack, SameBytes: what they return.
-/
import Derived.Test.YtcdoknkgbnaefaaUnpack
import Derived.Test.YtcdoknkgbnaefaaRSign
namespace Go.Proofs.Ytcdoknkgbnaefaa
open Go.Sim
set_option linter.unusedVariables false
set_option maxRecDepth 100000

theorem digit_val {x d : Int} (h0 : -3 ≤ x) (h1 : x ≤ 3) (hd0 : 0 ≤ d) (hd1 : d < 5) : digitF x = d ↔ x = valF d := by
  have hx : x = -3 ∨ x = -2 ∨ x = -1 ∨ x = 0 ∨ x = 1 ∨ x = 2 ∨ x = 3 := by omega
  have hd : d = 0 ∨ d = 1 ∨ d = 2 ∨ d = 3 ∨ d = 4 := by omega
  rcases hx with rfl | rfl | rfl | rfl | rfl | rfl | rfl <;> rcases hd with rfl | rfl | rfl | rfl | rfl <;> simp [digitF, valF]

theorem valF_bound (d : Int) : -3 ≤ valF d ∧ valF d ≤ 3 := by unfold valF; constructor <;> (repeat' split) <;> omega

theorem qd_bound (b : List Int) (i : Int) : 0 ≤ qd b i ∧ qd b i < 5 := by unfold qd; omega

theorem outL_len (b : List Int) (n : Nat) : (outL b n).length = n := by unfold outL; simp

theorem outL_at (b : List Int) (n : Nat) {i : Int} (h0 : 0 ≤ i) (h1 : i < n) : at' (outL b n) i = valF (qd b i) := by
  unfold outL; exact at'_range n (fun i => valF (qd b i)) h0 h1

theorem digit_valF {d : Int} (h0 : 0 ≤ d) (h1 : d < 5) : digitF (valF d) = d := by
  have hb := valF_bound d
  exact (digit_val hb.1 hb.2 h0 h1).2 rfl

theorem outL_good (b : List Int) (n : Nat) : (outL b n).all good = true := by
  rw [List.all_eq_true]
  intro x hx
  unfold outL at hx
  obtain ⟨i, _, rfl⟩ := List.mem_map.1 hx
  have := qd_bound b i
  simp only [good, digit_valF this.1 this.2]
  simp [this.1]

theorem dg_outL (b : List Int) (n : Nat) {i : Int} (h0 : 0 ≤ i) : dg (outL b n) i = if i < n then qd b i else 0 := by
  unfold dg
  rw [outL_len]
  split
  · rename_i h
    have := qd_bound b i
    rw [outL_at b n h0 h, digit_valF this.1 this.2]
  · rfl

theorem pack_eq (b : List Int) (m : Nat) {n k : Int} (hm : (m : Int) = n) (hk : 0 ≤ k) (h3 : 3 * k < n) (hx : 0 ≤ at' b k) : packB (outL b m) k = at' b k ↔ okB b n k := by
  unfold packB okB endOf
  rw [dg_outL b m (by omega), dg_outL b m (by omega), dg_outL b m (by omega)]
  unfold qd
  rw [show (3 * k) / 3 = k by omega, show (3 * k + 1) / 3 = k by omega, show (3 * k + 2) / 3 = k by omega, show (3 * k) % 3 = 0 by omega, show (3 * k + 1) % 3 = 1 by omega, show (3 * k + 2) % 3 = 2 by omega]
  generalize at' b k = x at hx ⊢
  rw [if_pos (by omega)]
  by_cases h2 : n = 3 * k + 1
  · rw [if_neg (by omega), if_neg (by omega), if_pos (by omega), show n - 3 * k = 1 by omega]
    simp [pw5]; omega
  · by_cases h4 : n = 3 * k + 2
    · rw [if_pos (by omega), if_neg (by omega), if_pos (by omega), show n - 3 * k = 2 by omega]
      simp [pw5]; omega
    · rw [if_pos (by omega), if_pos (by omega), if_neg (by omega), show 3 * k + 3 - 3 * k = 3 by omega]
      simp [pw5]; omega

variable {call : FuncId → List Value → AHeap → (Value → AHeap → Prop) → Prop}
  {head : FuncId → Nat → Nat → SS → (Exit → SS → Prop) → Prop}
  {arith : BinOp → IntKind → Int → Int → Int}
  {cmp : BinOp → Int → Int → Bool}
  {scmp : BinOp → ByteArray → ByteArray → Bool}
  {bnot : Bool → Bool}
  {bsame : Bool → Bool → Bool}
  {conv : IntKind → Int → Int}
  {neg : IntKind → Int → Int}
  {imax : Int → Int → Int}
  {imin : Int → Int → Int}
  {ofNat : Nat → Int}
  {slen : ByteArray → Int}
  {place : Nat → Int → Nat → Nat}
  {inR : Int → Nat → Prop}
  {nz : Int → Prop}
  {geZ : Int → Prop}
  {rd : AHeap → Nat → Nat → Nat → List Value → Prop}
  {wr : AHeap → Nat → Nat → List Value → AHeap → Prop}
  {push : AHeap → Nat → List Value → AHeap}
  {next : AHeap → Nat}
  {mkOK : Int → Int → Prop}
  {nat : Int → Nat}
  {zeros : List Value → Int → List Value}
  {sadd : ByteArray → ByteArray → (ByteArray → Prop) → Prop}
  {eqAgg : TypeId → Array Value → Array Value → (Bool → Prop) → Prop}
  {cut : Nat → Int → Prop}
  {slc : TypeId → Value → Option Value → Option Value → Option Value → (Option Addr → Nat → Nat → Prop) → Prop}
  {sslc : TypeId → ByteArray → Option Value → Option Value → (ByteArray → Prop) → Prop}
  {strAt : ByteArray → Int → (Int → Prop) → Prop}
  {part : TypeId → Array Value → Nat → Value → Prop}
  {app : List TypeId → List Value → AHeap → (Option Addr → Nat → Nat → AHeap → Prop) → Prop}
  {cpy : List TypeId → List Value → AHeap → (Int → AHeap → Prop) → Prop}
  {putAt : AHeap → Nat → Nat → List Value → AHeap}
  {fresh : AHeap → AHeap}
  {lowered : AHeap → AHeap → AHeap}
  {bump : AHeap → Nat → AHeap}
  {wrote : AHeap → AHeap → Bool}
  {addN : Nat → Nat → Nat}
  {lt : Nat → Nat → Prop}
  {ne : Nat → Nat → Prop}
  {fpAll : Bool → Bool → Bool → Nat → Nat → Prop}
  (hA : AOK progU hint prims ⟨call, head, arith, cmp, scmp, bnot, bsame, conv, neg, imax, imin, ofNat, slen, place, inR, nz, geZ, rd, wr, push, next, mkOK, nat, zeros, sadd, eqAgg, cut, slc, sslc, strAt, part, app, cpy, putAt, fresh, lowered, bump, wrote, addN, lt, ne, fpAll⟩)
include hA

theorem runpack_A {h : AHeap} {ab a6 : Option Addr} {nb cb n6 c6 : Nat} {n i x R : Int} (hi0 : 0 ≤ i) (hi1 : i < 1000000) (hx0 : 0 ≤ x) (hx1 : x < 256) (hR : R = i % 3) {Q : Exit → SS → Prop}
    (h0 : ∀ d, d = x / pw5 R → Q (.exit 2) ⟨[(0, .slice ab nb cb), (1, .int .i64 n), (6, .slice a6 n6 c6), (7, .int .i64 i), (8, .int .i64 d)], 0, [], h⟩) :
    ∀ (k : Int), 0 ≤ k → k ≤ R.toNat → ∀ d, d = x / pw5 k → head 14 11 0 ⟨[(0, .slice ab nb cb), (1, .int .i64 n), (6, .slice a6 n6 c6), (7, .int .i64 i), (8, .int .i64 d), (9, .int .i64 k)], 0, [], h⟩ Q := by
  refine countUp (fun k hk0 hk1 ih d hd => ?_)
  have hp := pw5_pos k
  have hdb : 0 ≤ d ∧ d < 256 := by
    rw [hd]
    exact ⟨Int.ediv_nonneg hx0 (by omega), by have := Int.ediv_le_self (pw5 k) hx0; omega⟩
  refine hA.roundR Try.func14 r14_ok ?_; (conv => cbv)
  refine ⟨nz_ok hA (by omega), ?_⟩
  (conv => cbv)
  refine br (k < R) (by rw [e_lss hA, rem64 hA hi0, hR]) (fun c => ?_) (fun c => ?_) <;> (conv => cbv)
  · refine ⟨nz_ok hA (by omega), ?_⟩
    (conv => cbv)
    rw [quo64 hA hdb.1 (by omega) (by omega), add64 hA (by omega) (by omega)]
    exact ih (by omega) _ (by rw [hd, div_pw5 hk0 (by omega)])
  · have : k = R := by omega
    rw [this] at hd
    exact h0 d hd

theorem runpack_B {h : AHeap} (hlow : h.low ≤ h.next) {ab : Option Addr} {nb cb mm : Nat} {n i d v : Int} {L : List Int} (hL : L.length = mm) (hmm : mm ≤ 300) (hd0 : 0 ≤ d) (hd1 : d < 256) (hv : v = valF (d % 5)) {Q : Exit → SS → Prop}
    (h0 : ∀ h' a' c', Ext h h' → From h.next a' → Apd h' 1 a' (mm + 1) c' ((L ++ [v]).map (.int .i64)) → Q (.exit 4) ⟨[(0, .slice ab nb cb), (1, .int .i64 n), (6, .slice a' (mm + 1) c'), (7, .int .i64 i)], 0, [], h'⟩) :
    ∀ (x : Int), -3 ≤ x → x ≤ 4 → ∀ (h' : AHeap) (a' : Option Addr) (m' c' : Nat), Ext h h' → From h.next a' → (x ≤ v → m' = mm ∧ Apd h' 1 a' m' c' (L.map (.int .i64))) → (v < x → m' = mm + 1 ∧ Apd h' 1 a' m' c' ((L ++ [v]).map (.int .i64))) →
      head 14 15 0 ⟨[(0, .slice ab nb cb), (1, .int .i64 n), (6, .slice a' m' c'), (7, .int .i64 i), (8, .int .i64 d), (10, .int .i64 x)], 0, [], h'⟩ Q := by
  have hvb := valF_bound (d % 5)
  rw [← hv] at hvb
  refine countUpI (fun x hx0 hx1 ih h' a' m' c' he hf hlo hhi => ?_)
  refine hA.roundR Try.func14 r14_ok ?_; (conv => cbv)
  refine br (x ≤ 3) (e_leq hA _ _) (fun c => ?_) (fun c => ?_) <;> (conv => cbv)
  · refine rdigit_ok hA x (he.lowOK hlow) (fun r hr => ⟨_, rfl, ?_⟩)
    (conv => cbv)
    refine ⟨nz_ok hA (by omega), ?_⟩
    (conv => cbv)
    have hiff := digit_val (d := d % 5) hx0 c (by omega) (by omega)
    rw [← hr, ← hv] at hiff
    refine br (r = d % 5) (by rw [e_eql hA, rem64 hA hd0]) (fun c2 => ?_) (fun c2 => ?_) <;> (conv => cbv)
    · have hxv := hiff.1 c2
      obtain ⟨rfl, hp⟩ := hlo (by omega)
      refine app1_ok hA hp (by omega) (fun a2 c2' h2 hp2 hE => ?_)
      (conv => cbv)
      rw [add64 hA (by omega) (by omega)]
      obtain ⟨he2, hf2⟩ := hE h he hf
      refine ih (by omega) h2 a2 _ c2' he2 hf2 (fun hh => by omega) (fun hh => ⟨rfl, ?_⟩)
      rw [← hxv]; exact hp2
    · rw [add64 hA (by omega) (by omega)]
      have hne : x ≠ v := fun e => c2 (hiff.2 e)
      exact ih (by omega) h' a' m' c' he hf (fun hh => hlo (by omega)) (fun hh => hhi (by omega))
  · obtain ⟨rfl, hp⟩ := hhi (by omega)
    exact h0 h' a' c' he hf hp

theorem runpack_loop {h : AHeap} (hlow : h.low ≤ h.next) {ab : Option Addr} {nb cb m : Nat} {bs : List Int} (hb : Ints h .u8 ab nb bs) (hbs : bytesOK bs) {n : Int} (hn0 : 0 ≤ n) (hn1 : n ≤ 256) (hm : (m : Int) = n) (hnb : (nb : Int) = (n + 2) / 3) {Q : Exit → SS → Prop}
    (h0 : ∀ h' a' c', Ext h h' → Apd h' 1 a' m c' ((outL bs m).map (.int .i64)) → Q (.exit 0) ⟨[(0, .slice ab nb cb), (6, .slice a' m c')], 0, [], h'⟩) :
    ∀ (i : Int), 0 ≤ i → i ≤ m → ∀ (h' : AHeap) (a' : Option Addr) (m' c' : Nat), Ext h h' → From h.next a' → (m' : Int) = i → Apd h' 1 a' m' c' (((outL bs m).take i.toNat).map (.int .i64)) →
      head 14 7 0 ⟨[(0, .slice ab nb cb), (1, .int .i64 n), (6, .slice a' m' c'), (7, .int .i64 i)], 0, [], h'⟩ Q := by
  have hl := hb.len
  have hg := outL_len bs m
  refine countUp (fun i hi0 hi1 ih h' a' m' c' he hf hmi hp => ?_)
  refine hA.roundR Try.func14 r14_ok ?_; (conv => cbv)
  refine br (i < n) (e_lss hA _ _) (fun c => ?_) (fun c => ?_) <;> (conv => cbv)
  · obtain ⟨q, hq⟩ : ∃ q, q = i / 3 := ⟨_, rfl⟩
    have hq2 : arith .quo .i64 i 3 = q := by rw [quo64 hA hi0 (by omega) (by omega), hq]
    obtain ⟨b1, o1, x, rfl, hb1, hx, hr⟩ := (hb.ext he).atI (i := q) (by omega) (by omega)
    have hxb := hbs _ (at'_mem bs (i := q) (by omega) (by omega))
    rw [← hx] at hxb
    have ht := take_succ' (outL bs m) hi0 (by omega)
    rw [outL_at bs m hi0 (by omega)] at ht
    refine ⟨nz_ok hA (by omega), ?_⟩
    rw [hq2]
    refine ⟨b1, o1, rfl, in_ok hA (by omega) (by omega), ?_⟩
    (conv => cbv)
    refine ⟨x, rd_ok hA hr, ?_⟩
    (conv => cbv)
    rw [conv64 hA (by omega) (by omega)]
    refine runpack_A hA hi0 (by omega) hxb.1 hxb.2 rfl (fun d hd => ?_) 0 (by omega) (by omega) x (by simp [pw5])
    have hp5 := pw5_pos (i % 3)
    have hdb : 0 ≤ d ∧ d < 256 := by
      rw [hd]
      exact ⟨Int.ediv_nonneg hxb.1 (by omega), by have := Int.ediv_le_self (pw5 (i % 3)) hxb.1; omega⟩
    have hqd : qd bs i = d % 5 := by unfold qd; rw [hd, hx, hq]
    (conv => cbv)
    have hvb := valF_bound (d % 5)
    refine runpack_B hA hlow (L := (outL bs m).take i.toNat) (mm := m') (by simp [hg]; omega) (by omega) hdb.1 hdb.2 rfl (fun h2 a2 c2 he2 hf2 hp2 => ?_) (-3) (by omega) (by omega) h' a' m' c' he hf (fun hh => ⟨rfl, hp⟩) (fun hh => by omega)
    (conv => cbv)
    rw [add64 hA (by omega) (by omega)]
    refine ih (by omega) h2 a2 (m' + 1) c2 he2 hf2 (by omega) ?_
    rw [ht, hqd]
    exact hp2
  · have e : m' = m := by omega
    subst e
    rw [List.take_of_length_le (by omega)] at hp
    exact h0 h' a' c' he hp

theorem runpack_C {h : AHeap} (hlow : h.low ≤ h.next) {ab a11 a6 : Option Addr} {nb cb n11 c11 n6 c6 : Nat} {bs ps : List Int} (hb : Ints h .u8 ab nb bs) (hp : Ints h .u8 a11 n11 ps) (hn : n11 = nb) (hnb : nb ≤ 1000) {Q : Exit → SS → Prop}
    (h0 : (∀ k : Int, 0 ≤ k → k < nb → at' ps k = at' bs k) → ∀ h', Ext h h' → Q (.exit 6) ⟨[(6, .slice a6 n6 c6)], 0, [], h'⟩)
    (h1 : ¬ (∀ k : Int, 0 ≤ k → k < nb → at' ps k = at' bs k) → ∀ h' e kn, Ext h h' → Q .ret ⟨(5, .int .i64 12) :: (4, .slice none 0 0) :: e, kn, [], h'⟩) :
    ∀ (i : Int), 0 ≤ i → i ≤ nb → (∀ k : Int, 0 ≤ k → k < i → at' ps k = at' bs k) → ∀ h', Ext h h' → head 14 21 0 ⟨[(0, .slice ab nb cb), (6, .slice a6 n6 c6), (11, .slice a11 n11 c11), (13, .int .i64 i)], 0, [], h'⟩ Q := by
  refine countUp (fun i hi0 hi1 ih hj h' he => ?_)
  refine hA.roundR Try.func14 r14_ok ?_; (conv => cbv)
  refine br (i < nb) (by rw [e_lss hA, e_ofNat hA]) (fun c => ?_) (fun c => ?_) <;> (conv => cbv)
  · obtain ⟨b1, o1, x, rfl, hb1, hx, hr⟩ := (hp.ext he).atI hi0 (by omega)
    obtain ⟨b2, o2, y, rfl, hb2, hy, hr2⟩ := (hb.ext he).atI hi0 (by omega)
    refine ⟨b1, o1, rfl, in_ok hA hi0 (by omega), ?_⟩
    (conv => cbv)
    refine ⟨_, rd_ok hA (by rw [e_bump hA]; exact hr), ?_⟩
    (conv => cbv)
    refine ⟨b2, o2, rfl, in_ok hA hi0 (by omega), ?_⟩
    (conv => cbv)
    refine ⟨_, rd_ok hA (by rw [e_bump hA]; exact hr2), ?_⟩
    (conv => cbv)
    have he2 : Ext h (bump h' 9) := by rw [e_bump hA]; exact he.trans (.bump _ _)
    refine br (x ≠ y) (e_neq hA _ _) (fun c2 => ?_) (fun c2 => ?_) <;> (conv => cbv)
    · refine h1 (fun e => c2 ?_) _ _ _ he2
      rw [hx, hy]; exact e i hi0 c
    · rw [add64 hA (by omega) (by omega)]
      refine ih c (fun k hk0 hk1 => ?_) _ he2
      by_cases e : k = i
      · rw [e, ← hx, ← hy]; exact Classical.not_not.1 c2
      · exact hj k hk0 (by omega)
  · exact h0 (fun k hk0 hk1 => hj k hk0 (by omega)) h' he

theorem runpack_ok {h : AHeap} (hlow : h.low ≤ h.next) {ab : Option Addr} {nb cb : Nat} (hnb : nb ≤ 300) {bs : List Int} (hb : Ints h .u8 ab nb bs) (hbs : bytesOK bs) (n : Int) (hn0 : -9223372036854775808 ≤ n) (hn1 : n < 9223372036854775808) {Q : Value → AHeap → Prop}
    (hQ : ∀ e a' n' c' h', e = unpackE bs n → Ext h h' → Ints h' .i64 a' n' (if e = 0 then outL bs n.toNat else []) → Q (.tuple #[.slice a' n' c', .int .i64 e]) h') : call 14 [.slice ab nb cb, .int .i64 n] h Q := by
  have hl := hb.len
  refine hA.bodyR Try.func14 r14_ok (show prims _ _ _ = none from rfl) hlow ?_; (conv => cbv)
  have bad2 : (n < 0 ∨ 256 < n) → Q (.tuple #[.slice none 0 0, .int .i64 2]) h := fun hc => hQ 2 none 0 0 h (by unfold unpackE; rw [if_pos hc]) (.refl _) (by rw [if_neg (by omega)]; exact .nil _ _)
  refine br (n < 0) (e_lss hA _ _) (fun c1 => ?_) (fun c1 => ?_) <;> (conv => cbv)
  · exact bad2 (.inl c1)
  refine br (256 < n) (e_gtr hA _ _) (fun c2 => ?_) (fun c2 => ?_) <;> (conv => cbv)
  · exact bad2 (.inr c2)
  refine ⟨nz_ok hA (by omega), ?_⟩
  (conv => cbv)
  refine br ((nb : Int) ≠ (n + 2) / 3) (by rw [e_neq hA, e_ofNat hA, add64 hA (by omega) (by omega), quo64 hA (by omega) (by omega) (by omega)]) (fun c3 => ?_) (fun c3 => ?_) <;> (conv => cbv)
  · exact hQ 12 none 0 0 h (by unfold unpackE; rw [if_neg (by omega), if_pos (by omega)]) (.refl _) (by rw [if_neg (by omega)]; exact .nil _ _)
  have hnr : (nb : Int) = (n + 2) / 3 := by omega
  obtain ⟨m, hm⟩ : ∃ m, m = n.toNat := ⟨_, rfl⟩
  have hmn : (m : Int) = n := by omega
  refine runpack_loop hA hlow hb hbs (by omega) (by omega) hmn hnr (fun h1 a1 c1' he1 hp1 => ?_) 0 (by omega) (by omega) h none 0 0 (.refl _) (.none _) rfl (by simpa using Apd.nil h 1)
  (conv => cbv)
  have hi1 : Ints h1 .i64 a1 m (outL bs m) := ⟨hp1.cells⟩
  refine rpack_ok hA (he1.lowOK hlow) (by omega) hi1 (fun e2 a2 n2 c2' h2 he2c he2 hi2 => ⟨_, _, _, _, rfl, ?_⟩)
  have he0 : e2 = 0 := by
    rw [he2c]; unfold checkF
    rw [outL_len, if_neg (by omega), outL_good]; rfl
  rw [if_pos he0] at hi2
  have hn2 : n2 = nb := by
    have := hi2.len
    unfold packL at this
    simp only [List.length_map, List.length_range, outL_len] at this
    rw [← this]; unfold packN; omega
  have hat : ∀ k : Int, 0 ≤ k → k < nb → (at' (packL (outL bs m)) k = at' bs k ↔ okB bs n k) := by
    intro k hk0 hk1
    have hxb := hbs _ (at'_mem bs hk0 (by omega))
    unfold packL
    rw [at'_range _ (fun j => packB (outL bs m) j) hk0 (by rw [outL_len]; unfold packN; omega)]
    exact pack_eq bs m hmn hk0 (by omega) hxb.1
  have hall : (∀ k : Int, 0 ≤ k → k < nb → at' (packL (outL bs m)) k = at' bs k) ↔ allOK bs n := by
    constructor
    · intro hh k hk0 hk1; exact (hat k hk0 (by omega)).1 (hh k hk0 (by omega))
    · intro hh k hk0 hk1; exact (hat k hk0 hk1).2 (hh k hk0 (by omega))
  (conv => cbv)
  refine runpack_C hA ((he1.trans he2).lowOK hlow) (hb.ext (he1.trans he2)) hi2 hn2 (by omega) (fun hh h3 he3 => ?_) (fun hh h3 e kn he3 => ?_) 0 (by omega) (by omega) (fun k hk0 hk1 => by omega) h2 (.refl _)
  · (conv => cbv)
    exact hQ 0 _ _ _ h3 (by unfold unpackE; rw [if_neg (by omega), if_neg (by omega), if_pos (hall.1 hh)]) (he1.trans (he2.trans he3)) (by rw [if_pos rfl, ← hm]; exact hi1.ext (he2.trans he3))
  · (conv => cbv)
    exact hQ 12 none 0 0 h3 (by unfold unpackE; rw [if_neg (by omega), if_neg (by omega), if_neg (fun hh2 => hh (hall.2 hh2))]) (he1.trans (he2.trans he3)) (by rw [if_neg (by omega)]; exact .nil _ _)

theorem sameb_loop {h : AHeap} (hlow : h.low ≤ h.next) {a a2 : Option Addr} {n c c2 : Nat} (hn : n ≤ 1000000) {l l2 : List Int} (hs : Ints h .u8 a n l) (hs2 : Ints h .u8 a2 n l2) {Q : Exit → SS → Prop}
    (h0 : l = l2 → ∀ h', Ext h h' → Q (.exit 0) ⟨[], 0, [], h'⟩) (h1 : ∀ e K kn h', l ≠ l2 → Ext h h' → Q .ret ⟨(4, .bool false) :: e, kn, K, h'⟩) :
    ∀ (i : Int), 0 ≤ i → i ≤ n → l.take i.toNat = l2.take i.toNat → ∀ h', Ext h h' → head 15 4 0 ⟨[(0, .slice a n c), (1, .slice a2 n c2), (5, .int .i64 i)], 0, [], h'⟩ Q := by
  have hl := hs.len
  have hl2 := hs2.len
  refine countUp (fun i hi0 hin ih hj h' he => ?_)
  refine hA.roundR Try.func15 r15_ok ?_; (conv => cbv)
  refine br (i < n) (by rw [e_lss hA, e_ofNat hA]) (fun c => ?_) (fun c => ?_) <;> (conv => cbv)
  · obtain ⟨b, o, x, rfl, hb, hx, hr⟩ := (hs.ext he).atI hi0 c
    obtain ⟨b2, o2, x2, rfl, hb2, hx2, hr2⟩ := (hs2.ext he).atI hi0 c
    have ht := take_succ' l hi0 (by omega)
    have ht2 := take_succ' l2 hi0 (by omega)
    refine ⟨b, o, rfl, in_ok hA hi0 c, ?_⟩
    (conv => cbv)
    refine ⟨_, rd_ok hA (by rw [e_bump hA]; exact hr), ?_⟩
    (conv => cbv)
    refine ⟨b2, o2, rfl, in_ok hA hi0 c, ?_⟩
    (conv => cbv)
    refine ⟨_, rd_ok hA (by rw [e_bump hA]; exact hr2), ?_⟩
    (conv => cbv)
    have he2 : Ext h (bump h' 9) := by rw [e_bump hA]; exact he.trans (.bump _ _)
    refine br (x ≠ x2) (e_neq hA _ _) (fun c2 => ?_) (fun c2 => ?_) <;> (conv => cbv)
    · refine h1 _ _ _ _ (fun e => c2 ?_) he2
      rw [hx, hx2, e]
    · rw [add64 hA (by omega) (by omega)]
      refine ih c ?_ _ he2
      have : x = x2 := Classical.not_not.1 c2
      rw [ht, ht2, hj, ← hx, ← hx2, this]
  · rw [List.take_of_length_le (by omega), List.take_of_length_le (by omega)] at hj
    exact h0 hj h' he

theorem sameb_ok {h : AHeap} (hlow : h.low ≤ h.next) {a a2 : Option Addr} {n n2 c c2 : Nat} (hn : n ≤ 1000000) {l l2 : List Int} (hs : Ints h .u8 a n l) (hs2 : Ints h .u8 a2 n2 l2) {Q : Value → AHeap → Prop}
    (hQ : ∀ r, r = decide (l = l2) → ∀ h', Ext h h' → Q (.bool r) h') : call 15 [.slice a n c, .slice a2 n2 c2] h Q := by
  have hl := hs.len
  have hl2 := hs2.len
  refine hA.bodyR Try.func15 r15_ok (show prims _ _ _ = none from rfl) hlow ?_; (conv => cbv)
  refine br ((n : Int) ≠ n2) (by rw [e_neq hA, e_ofNat hA, e_ofNat hA]) (fun c => ?_) (fun c => ?_) <;> (conv => cbv)
  · refine hQ _ ?_ _ (.refl _)
    have : ¬ l = l2 := fun e => c (by rw [← hl, ← hl2, e])
    simp [this]
  · have e : n = n2 := by omega
    subst e
    refine sameb_loop hA hlow hn hs hs2 (fun e h' he => ?_) (fun e K kn h' hne he => ?_) 0 (by omega) (by omega) (by simp) _ (.refl _)
    · (conv => cbv)
      exact hQ _ (by simp [e]) _ he
    · (conv => cbv)
      exact hQ _ (by simp [hne]) _ he

end Go.Proofs.Ytcdoknkgbnaefaa
