/-
  THE PRODUCT OF A RECORD (origin.made).
-/
import Derived.Test.YtopppccddnplkaaOMix
namespace Go.Proofs.Ytopppccddnplkaa
open Go.Sim
set_option linter.unusedVariables false
set_option maxRecDepth 100000

/-- Reversed up to i from both ends. -/
def partR (b : Bytes) (i : Int) : Bytes := (List.range b.length).map fun (k : Nat) => if (k : Int) < i ∨ (b.length : Int) - 1 - i < k then at' b (b.length - 1 - k) else at' b k
theorem partR_len (b : Bytes) (i : Int) : (partR b i).length = b.length := by unfold partR; simp
theorem partR_at {b : Bytes} {i k : Int} (h0 : 0 ≤ k) (h1 : k < b.length) : at' (partR b i) k = if k < i ∨ (b.length : Int) - 1 - i < k then at' b (b.length - 1 - k) else at' b k :=
  at'_range _ (fun k => if k < i ∨ (b.length : Int) - 1 - i < k then at' b (b.length - 1 - k) else at' b k) h0 h1
theorem partR_zero (b : Bytes) : partR b 0 = b := by
  refine list_ext' (partR_len b 0) (fun j h0 h1 => ?_)
  rw [partR_len] at h1
  rw [partR_at h0 h1, if_neg (by omega)]
theorem rev_at {b : Bytes} {k : Int} (h0 : 0 ≤ k) (h1 : k < b.length) : at' b.reverse k = at' b (b.length - 1 - k) := by
  unfold at'
  rw [List.getD, List.getD, List.getElem?_reverse (by omega)]
  congr 2
  omega
theorem partR_end {b : Bytes} {i : Int} (h0 : 0 ≤ i) (h1 : (b.length : Int) - 1 - i ≤ i) : partR b i = b.reverse := by
  refine list_ext' (by rw [partR_len]; simp) (fun k k0 k1 => ?_)
  rw [partR_len] at k1
  rw [partR_at k0 k1, rev_at k0 k1]
  split
  · rfl
  · congr 1; omega
theorem partR_set {b : Bytes} {i : Int} (h0 : 0 ≤ i) (h1 : i < (b.length : Int) - 1 - i) :
    ((partR b i).set i.toNat (at' b (b.length - 1 - i))).set ((b.length : Int) - 1 - i).toNat (at' b i) = partR b (i + 1) := by
  have hl := partR_len b i
  refine list_ext' (by simp [partR_len]) (fun k k0 k1 => ?_)
  rw [List.length_set, List.length_set, hl] at k1
  rw [at'_set _ (by omega) k0 (by rw [List.length_set, hl]; omega), at'_set _ h0 k0 (by rw [hl]; omega), partR_at k0 k1, partR_at k0 k1]
  by_cases e1 : k = (b.length : Int) - 1 - i
  · rw [if_pos e1, if_pos (by omega)]; congr 1; omega
  · rw [if_neg e1]
    by_cases e2 : k = i
    · rw [if_pos e2, if_pos (by omega), e2]
    · rw [if_neg e2]
      by_cases e3 : k < i ∨ (b.length : Int) - 1 - i < k
      · rw [if_pos e3, if_pos (by omega)]
      · rw [if_neg e3, if_neg (by omega)]

/-- Shifted up to i. -/
def partS (b : Bytes) (k i : Int) : Bytes := (List.range b.length).map fun (j : Nat) => if (j : Int) < i then (at' b j + k) % 256 else at' b j
theorem partS_len (b : Bytes) (k i : Int) : (partS b k i).length = b.length := by unfold partS; simp
theorem partS_at {b : Bytes} {k i j : Int} (h0 : 0 ≤ j) (h1 : j < b.length) : at' (partS b k i) j = if j < i then (at' b j + k) % 256 else at' b j :=
  at'_range _ (fun j => if j < i then (at' b j + k) % 256 else at' b j) h0 h1
theorem partS_zero (b : Bytes) (k : Int) : partS b k 0 = b := by
  refine list_ext' (partS_len b k 0) (fun j h0 h1 => ?_)
  rw [partS_len] at h1
  rw [partS_at h0 h1, if_neg (by omega)]
theorem partS_end (b : Bytes) (k : Int) : partS b k b.length = shiftS b k := by
  refine list_ext' (by rw [partS_len]; unfold shiftS; simp) (fun j h0 h1 => ?_)
  rw [partS_len] at h1
  rw [partS_at h0 h1, if_pos h1]
  unfold shiftS
  rw [at'_map _ b h0 h1]
theorem partS_set {b : Bytes} {k i : Int} (h0 : 0 ≤ i) (h1 : i < b.length) : (partS b k i).set i.toNat ((at' b i + k) % 256) = partS b k (i + 1) := by
  refine list_ext' (by simp [partS_len]) (fun j j0 j1 => ?_)
  rw [List.length_set, partS_len] at j1
  rw [at'_set _ h0 j0 (by rw [partS_len]; omega), partS_at j0 j1, partS_at j0 j1]
  by_cases e : j = i
  · rw [if_pos e, if_pos (by omega), e]
  · rw [if_neg e]
    by_cases e2 : j < i
    · rw [if_pos e2, if_pos (by omega)]
    · rw [if_neg e2, if_neg (by omega)]

theorem wrapB {x : Int} (h1 : 0 ≤ x) : IntKind.wrap .u8 x = x % 256 := by
  unfold IntKind.wrap
  simp [IntKind.bits, IntKind.signed]

/-- What the function literal gives: the products that a record is made of. -/
def GivesB (call : FuncId → List Value → AHeap → (Value → AHeap → Prop) → Prop) (h0 : AHeap) (caps : List Value) (ins : List Bytes) : Prop :=
  ∀ (i : Int) (h : AHeap) (Q : Value → AHeap → Prop), 0 ≤ i → i < ins.length → Ext h0 h → (∀ a n c h', Ext h h' → Byts h0 a n c (bat ins i) → Q (.slice a n c) h') → call 44 (.int .i64 i :: caps) h Q

theorem bat_len {ins : List Bytes} (h : ∀ b ∈ ins, b.length ≤ 1000) (i : Int) : (bat ins i).length ≤ 1000 := by
  unfold bat
  by_cases c : i.toNat < ins.length
  · rw [List.getD, List.getElem?_eq_getElem c]; exact h _ (List.getElem_mem _)
  · rw [List.getD, List.getElem?_eq_none (by omega)]; simp
theorem bat_okB {ins : List Bytes} (h : ∀ b ∈ ins, okB b) (i : Int) : okB (bat ins i) := by
  unfold bat
  by_cases c : i.toNat < ins.length
  · rw [List.getD, List.getElem?_eq_getElem c]; exact h _ (List.getElem_mem _)
  · rw [List.getD, List.getElem?_eq_none (by omega)]; intro x hx; cases hx
theorem flatten_len {ins : List Bytes} (h : ∀ b ∈ ins, b.length ≤ 1000) : ins.flatten.length ≤ 1000 * ins.length := by
  induction ins with
  | nil => simp
  | cons b l ih =>
    have h1 := h b (List.mem_cons_self ..)
    have h2 := ih (fun c hc => h c (List.mem_cons_of_mem _ hc))
    simp only [List.flatten_cons, List.length_append, List.length_cons]
    omega
theorem hds_ok (hs : List Hd) : (hs.map Hd.val).all cellOK = true := by
  rw [List.all_eq_true]
  intro v hv
  obtain ⟨s, _, rfl⟩ := List.mem_map.1 hv
  rfl

/-- The lists that were gathered so far. -/
def Heads (h0 h : AHeap) (a : Option Addr) (n c : Nat) (ls : List Bytes) : Prop :=
  ∃ hs : List Hd, Apd h 1 a n c (hs.map Hd.val) ∧ From h0.next a ∧ hs.length = ls.length ∧ ∀ (j : Nat) (x : Hd) (l : Bytes), hs[j]? = some x → ls[j]? = some l → Byts h0 x.a x.n x.c l

theorem take_bat (ls : List Bytes) {i : Int} (h0 : 0 ≤ i) (h1 : i < ls.length) : ls.take (i + 1).toNat = ls.take i.toNat ++ [bat ls i] := by
  rw [toNat_succ h0, List.take_add_one, getD_some ls i.toNat [] (by omega)]
  rfl

variable {call : FuncId → List Value → AHeap → (Value → AHeap → Prop) → Prop}
  {head : FuncId → Nat → Nat → SS → (Exit → SS → Prop) → Prop}
  {arith : BinOp → IntKind → Int → Int → Int}
  {cmp : BinOp → Int → Int → Bool}
  {scmp : BinOp → ByteArray → ByteArray → Bool}
  {bnot : Bool → Bool}
  {bsame : Bool → Bool → Bool}
  {conv : IntKind → Int → Int}
  {neg : IntKind → Int → Int}
  {imax : Int → Int → Int}
  {imin : Int → Int → Int}
  {ofNat : Nat → Int}
  {slen : ByteArray → Int}
  {place : Nat → Int → Nat → Nat}
  {inR : Int → Nat → Prop}
  {nz : Int → Prop}
  {geZ : Int → Prop}
  {rd : AHeap → Nat → Nat → Nat → List Value → Prop}
  {wr : AHeap → Nat → Nat → List Value → AHeap → Prop}
  {push : AHeap → Nat → List Value → AHeap}
  {next : AHeap → Nat}
  {mkOK : Int → Int → Prop}
  {nat : Int → Nat}
  {zeros : List Value → Int → List Value}
  {sadd : ByteArray → ByteArray → (ByteArray → Prop) → Prop}
  {eqAgg : TypeId → Array Value → Array Value → (Bool → Prop) → Prop}
  {cut : Nat → Int → Prop}
  {slc : TypeId → Value → Option Value → Option Value → Option Value → (Option Addr → Nat → Nat → Prop) → Prop}
  {sslc : TypeId → ByteArray → Option Value → Option Value → (ByteArray → Prop) → Prop}
  {strAt : ByteArray → Int → (Int → Prop) → Prop}
  {part : TypeId → Array Value → Nat → Value → Prop}
  {app : List TypeId → List Value → AHeap → (Option Addr → Nat → Nat → AHeap → Prop) → Prop}
  {cpy : List TypeId → List Value → AHeap → (Int → AHeap → Prop) → Prop}
  {putAt : AHeap → Nat → Nat → List Value → AHeap}
  {fresh : AHeap → AHeap}
  {lowered : AHeap → AHeap → AHeap}
  {bump : AHeap → Nat → AHeap}
  {wrote : AHeap → AHeap → Bool}
  {addN : Nat → Nat → Nat}
  {lt : Nat → Nat → Prop}
  {ne : Nat → Nat → Prop}
  {fpAll : Bool → Bool → Bool → Nat → Nat → Prop}
  {brk : (Unit → Prop) → Prop}
  {yn : Nat → Nat}
  {rng : FuncId → Nat → SS → (Exit → SS → Prop) → Prop}
  {mget : TypeId → Value → Value → AHeap → Value → Bool → Prop}
  {mput : TypeId → Value → Value → Value → AHeap → AHeap → Prop}
  {mnew : AHeap → AHeap}
  {bytes : TypeId → TypeId → Option Addr → Nat → AHeap → ByteArray → Prop}
  {clr : List TypeId → List Value → AHeap → AHeap → Prop}
  (hA : AOK progU hint prims ⟨call, head, arith, cmp, scmp, bnot, bsame, conv, neg, imax, imin, ofNat, slen, place, inR, nz, geZ, rd, wr, push, next, mkOK, nat, zeros, sadd, eqAgg, cut, slc, sslc, strAt, part, app, cpy, putAt, fresh, lowered, bump, wrote, addN, lt, ne, fpAll, brk, yn, rng, mget, mput, mnew, bytes, clr⟩)
include hA

theorem rev_loop {h0 : AHeap} (hlow0 : h0.low ≤ h0.next) {b : Bytes} {a : Option Addr} {n c : Nat} (hlen : b.length ≤ 100000) {cs : List Value} {Q : Exit → SS → Prop}
    (h1 : ∀ h' kn K, Ext h0 h' → BMem h' h0.next a n c b.reverse → Q (.exit 4) ⟨[(7, .slice a n c)], kn, K, h'⟩) :
    ∀ i : Int, 0 ≤ i → i ≤ n → ∀ j : Int, j = n - 1 - i → ∀ h, Ext h0 h → BMem h h0.next a n c (partR b i) → head 43 18 1 ⟨[(7, .slice a n c), (8, .int .i64 i), (9, .int .i64 j)], 1, [(0, cs)], h⟩ Q := by
  refine countUp (fun i hi0 hin ih j hj h e hm => ?_)
  have hml := hm.len
  rw [partR_len] at hml
  refine hA.roundR Try.func43 r43_ok ?_; (try (conv => cbv)); repeat (refine brk_ok hA ?_; (try (conv => cbv)))
  refine br (i < j) (by rw [e_lss hA]) (fun c1 => ?_) (fun c1 => ?_) <;> (try (conv => cbv)) <;> repeat (refine brk_ok hA ?_; (try (conv => cbv)))
  · obtain ⟨h9, hh9⟩ : ∃ z, z = bump h 16 := ⟨_, rfl⟩
    obtain ⟨nh, hnh⟩ : ∃ z, z = next h := ⟨_, rfl⟩
    have e9 : Ext h h9 := by rw [hh9, e_bump hA]; exact .bump _ _
    rw [← hh9, ← hnh]
    have hm9 := hm.ext e9
    obtain ⟨b2, o2, x, hae2, hbn2, hx, hrd2⟩ := hm9.byts.at (i := j) (by omega) (by omega)
    refine ⟨b2, o2, hae2, in_ok hA (by omega) (by omega), ?_⟩
    ((try (conv => cbv)); repeat (refine brk_ok hA ?_; (try (conv => cbv))))
    refine ⟨x, rd_ok hA hrd2, ?_⟩
    ((try (conv => cbv)); repeat (refine brk_ok hA ?_; (try (conv => cbv))))
    obtain ⟨b3, o3, y, hae3, hbn3, hy, hrd3⟩ := hm9.byts.at (i := i) (by omega) (by omega)
    refine ⟨b3, o3, hae3, in_ok hA (by omega) (by omega), ?_⟩
    ((try (conv => cbv)); repeat (refine brk_ok hA ?_; (try (conv => cbv))))
    refine ⟨y, rd_ok hA hrd3, ?_⟩
    ((try (conv => cbv)); repeat (refine brk_ok hA ?_; (try (conv => cbv))))
    have hx' : x = at' b (b.length - 1 - i) := by rw [hx, partR_at (by omega) (by omega), if_neg (by omega)]; congr 1; omega
    have hy' : y = at' b i := by rw [hy, partR_at (by omega) (by omega), if_neg (by omega)]
    obtain ⟨b4, h4, hae4, hlo4, hlt4, w1, w2, w3⟩ := hm9.set (i := i) hi0 (by omega) x
    refine ⟨b4, 0, hae4, in_ok hA (by omega) (by omega), ?_⟩
    ((try (conv => cbv)); repeat (refine brk_ok hA ?_; (try (conv => cbv))))
    refine ⟨h4, wr_ok hA w1, ?_⟩
    ((try (conv => cbv)); repeat (refine brk_ok hA ?_; (try (conv => cbv))))
    obtain ⟨b5, h5, hae5, hlo5, hlt5, v1, v2, v3⟩ := w2.set (i := j) (by omega) (by omega) y
    refine ⟨b5, 0, hae5, in_ok hA (by omega) (by omega), ?_⟩
    ((try (conv => cbv)); repeat (refine brk_ok hA ?_; (try (conv => cbv))))
    refine ⟨h5, wr_ok hA v1, ?_⟩
    ((try (conv => cbv)); repeat (refine brk_ok hA ?_; (try (conv => cbv))))
    rw [add64 hA (by omega) (by omega), sub64 hA (by omega) (by omega)]
    have hjn : j = (b.length : Int) - 1 - i := by omega
    rw [hx', hy', hjn, partR_set hi0 (by omega)] at v2
    refine ih (by omega) _ (by omega) h5 (v3.ext (w3.ext (e.trans e9) (by omega)) (by omega)) v2
  · rw [partR_end hi0 (by omega)] at hm
    exact h1 h _ _ e hm

theorem shift_loop {h0 : AHeap} (hlow0 : h0.low ≤ h0.next) {b : Bytes} (hb : okB b) {a : Option Addr} {n c : Nat} (hlen : b.length ≤ 100000) {x : RH} (ha0 : 0 ≤ x.arg) (ha1 : x.arg ≤ 255) {Q : Exit → SS → Prop}
    (h1 : ∀ h' kn K, Ext h0 h' → BMem h' h0.next a n c (shiftS b x.arg) → Q (.exit 6) ⟨[(7, .slice a n c)], kn, K, h'⟩) :
    ∀ i : Int, 0 ≤ i → i ≤ n → ∀ h, Ext h0 h → BMem h h0.next a n c (partS b x.arg i) → head 43 25 1 ⟨[(2, .pointer (some ⟨0, 0, some 0⟩)), (7, .slice a n c), (89, .int .i64 (ofNat n)), (90, .int .i64 i)], 1, [(0, x.cells)], h⟩ Q := by
  obtain ⟨xnm, xhow, xfa, xfn, xfc, xarg, xda, xdn, xdc, xdg⟩ := x
  simp only [] at ha0 ha1
  refine countUp (fun i hi0 hin ih h e hm => ?_)
  have hml := hm.len
  rw [partS_len] at hml
  refine hA.roundR Try.func43 r43_ok ?_; (try (conv => cbv)); repeat (refine brk_ok hA ?_; (try (conv => cbv)))
  refine br (i < n) (by rw [e_lss hA, e_ofNat hA]) (fun c1 => ?_) (fun c1 => ?_) <;> (try (conv => cbv)) <;> repeat (refine brk_ok hA ?_; (try (conv => cbv)))
  · obtain ⟨h9, hh9⟩ : ∃ z, z = bump h 10 := ⟨_, rfl⟩
    obtain ⟨nh, hnh⟩ : ∃ z, z = next h := ⟨_, rfl⟩
    have e9 : Ext h h9 := by rw [hh9, e_bump hA]; exact .bump _ _
    rw [← hh9, ← hnh]
    have hm9 := hm.ext e9
    obtain ⟨b2, o2, y, hae2, hbn2, hy, hrd2⟩ := hm9.byts.at (i := i) (by omega) (by omega)
    have hy' : y = at' b i := by rw [hy, partS_at (by omega) (by omega), if_neg (by omega)]
    have hyb := okB_at hb hi0 (by omega : i < b.length)
    rw [← hy'] at hyb
    refine ⟨b2, o2, hae2, in_ok hA (by omega) (by omega), ?_⟩
    ((try (conv => cbv)); repeat (refine brk_ok hA ?_; (try (conv => cbv))))
    refine ⟨y, rd_ok hA hrd2, ?_⟩
    ((try (conv => cbv)); repeat (refine brk_ok hA ?_; (try (conv => cbv))))
    obtain ⟨z, hz⟩ : ∃ v, v = (at' b i + xarg) % 256 := ⟨_, rfl⟩
    have ec : conv .u8 xarg = xarg := conv8 hA (by omega) (by omega)
    have ez : arith .add .u8 y xarg = z := by rw [e_add hA, wrapB (by omega), hz, hy']
    rw [ec, ez]
    obtain ⟨b4, h4, hae4, hlo4, hlt4, w1, w2, w3⟩ := hm9.set (i := i) hi0 (by omega) z
    refine ⟨b4, 0, hae4, in_ok hA (by omega) (by omega), ?_⟩
    ((try (conv => cbv)); repeat (refine brk_ok hA ?_; (try (conv => cbv))))
    refine ⟨h4, wr_ok hA w1, ?_⟩
    ((try (conv => cbv)); repeat (refine brk_ok hA ?_; (try (conv => cbv))))
    rw [add64 hA (by omega) (by omega)]
    rw [hz] at w2
    simp only [] at w2
    rw [partS_set hi0 (by omega)] at w2
    exact ih c1 h4 (w3.ext (e.trans e9) (by omega)) w2
  · have : i = b.length := by omega
    rw [this, partS_end] at hm
    exact h1 h _ _ e hm

theorem every_loop {h0 : AHeap} (hlow0 : h0.low ≤ h0.next) {b : Bytes} {ab : Option Addr} {nb cb : Nat} (hb : Byts h0 ab nb cb b) (hlen : b.length ≤ 100000) {x : RH} (ha0 : 1 ≤ x.arg) (ha1 : x.arg ≤ 1000) {K : List (Nat × List Value)} (hK : K = [(0, x.cells)]) {Q : Exit → SS → Prop}
    (h1 : ∀ a n c h' kn K, Ext h0 h' → BOut h' h0.next a n c (everyS b x.arg.toNat 0) → Q (.exit 8) ⟨[(11, .slice a n c)], kn, K, h'⟩) :
    ∀ (d : Nat) (i : Int), 0 ≤ i → (b.length : Int) - i ≤ d → i ≤ 200000 → ∀ h a n c l, Ext h0 h → BOut h h0.next a n c l → (n : Int) ≤ i → l ++ everyS b x.arg.toNat i.toNat = everyS b x.arg.toNat 0 → head 43 32 1 ⟨[(2, .pointer (some ⟨0, 0, some 0⟩)), (7, .slice ab nb cb), (11, .slice a n c), (12, .int .i64 i)], 1, K, h⟩ Q := by
  have hbl := hb.len
  subst hK
  obtain ⟨xnm, xhow, xfa, xfn, xfc, xarg, xda, xdn, xdc, xdg⟩ := x
  simp only [] at ha0 ha1 h1
  intro d
  induction d with
  | zero =>
    intro i hi0 hid hi2 h a n c l e hm hni hl
    refine hA.roundR Try.func43 r43_ok ?_; (try (conv => cbv)); repeat (refine brk_ok hA ?_; (try (conv => cbv)))
    refine br (i < nb) (by rw [e_lss hA, e_ofNat hA]) (fun c1 => by omega) (fun c1 => ?_) <;> (try (conv => cbv)) <;> repeat (refine brk_ok hA ?_; (try (conv => cbv)))
    simp only [] at hl
    rw [everyS, dif_neg (by omega), List.append_nil] at hl
    rw [hl] at hm
    exact h1 a n c h _ _ e hm
  | succ d ih =>
    intro i hi0 hid hi2 h a n c l e hm hni hl
    simp only [] at hl ih
    refine hA.roundR Try.func43 r43_ok ?_; (try (conv => cbv)); repeat (refine brk_ok hA ?_; (try (conv => cbv)))
    refine br (i < nb) (by rw [e_lss hA, e_ofNat hA]) (fun c1 => ?_) (fun c1 => ?_) <;> (try (conv => cbv)) <;> repeat (refine brk_ok hA ?_; (try (conv => cbv)))
    · obtain ⟨b2, o2, y, hae2, hbn2, hy, hrd2⟩ := (hb.ext e).at (i := i) (by omega) (by omega)
      refine ⟨b2, o2, hae2, in_ok hA (by omega) (by omega), ?_⟩
      ((try (conv => cbv)); repeat (refine brk_ok hA ?_; (try (conv => cbv))))
      refine ⟨y, rd_ok hA hrd2, ?_⟩
      ((try (conv => cbv)); repeat (refine brk_ok hA ?_; (try (conv => cbv))))
      rw [e_next hA, e_push hA]
      have e2 : Ext h (h.push 1 [Value.int .u8 y]) := .push _ _ _
      have o3 : Own (h.push 1 [Value.int .u8 y]) h.next 1 [Value.int .u8 y] := Own.push _ _ _
      have hy1 : Byts (h.push 1 [Value.int .u8 y]) (some ⟨h.next, 0, none⟩) 1 1 [y] := .inl ⟨⟨rfl, Nat.lt_succ_self _, by rw [o3.readG (by simp)]; rfl⟩, (fun q => by cases q), by unfold capLow slack; omega⟩
      obtain ⟨a', c', h', q1, q2, q3⟩ := (hm.ext e2).add hy1 (by omega) (e.trans e2) rfl
      refine app_ok hA q1 ?_
      ((try (conv => cbv)); repeat (refine brk_ok hA ?_; (try (conv => cbv))))
      have hya : y = b.getD i.toNat 0 := hy
      rw [everyS, dif_pos (by omega)] at hl
      rw [add64 hA (by omega) (by omega)]
      refine ih (i + xarg) (by omega) (by omega) (by omega) h' a' (n + 1) c' (l ++ [y]) q3 q2 (by omega) ?_
      have ht : (i + xarg).toNat = i.toNat + xarg.toNat := by omega
      rw [← hl, hya, ht, List.append_assoc]
      rfl
    · rw [everyS, dif_neg (by omega), List.append_nil] at hl
      rw [hl] at hm
      exact h1 a n c h _ _ e hm

theorem lists_loop {h0 : AHeap} (hlow0 : h0.low ≤ h0.next) {caps : List Value} {p1 p2 : Nat} (hcaps : caps = [.pointer (some ⟨p1, 0, none⟩), .pointer (some ⟨p2, 0, none⟩)]) {ins : List Bytes} (hg : GivesB call h0 caps ins) {nf : Nat} (hnf : ins.length = nf) (hn : (nf : Int) ≤ 1000) {K : List (Nat × List Value)} {Q : Exit → SS → Prop}
    (h1 : ∀ a n c h', Ext h0 h' → Heads h0 h' a n c ins → n = nf → Q (.exit 1) ⟨[(5, .slice a n c)], 1, K, h'⟩) :
    ∀ i : Int, 0 ≤ i → i ≤ nf → ∀ h a n c, Ext h0 h → Heads h0 h a n c (ins.take i.toNat) → (n : Int) = i → head 43 7 1 ⟨[(1, .func (.func 44) #[] caps.toArray), (5, .slice a n c), (25, .int .i64 (ofNat nf)), (26, .int .i64 i)], 1, K, h⟩ Q := by
  subst hcaps
  refine countUp (fun i hi0 hin ih h a n c e hh hni => ?_)
  refine hA.roundR Try.func43 r43_ok ?_; (try (conv => cbv)); repeat (refine brk_ok hA ?_; (try (conv => cbv)))
  refine br (i < nf) (by rw [e_lss hA, e_ofNat hA]) (fun c1 => ?_) (fun c1 => ?_) <;> (try (conv => cbv)) <;> repeat (refine brk_ok hA ?_; (try (conv => cbv)))
  · refine hg i h _ hi0 (by omega) e (fun ra rn rc h2 e2 hb2 => ⟨_, _, _, rfl, ?_⟩)
    ((try (conv => cbv)); repeat (refine brk_ok hA ?_; (try (conv => cbv))))
    rw [e_next hA, e_push hA]
    obtain ⟨hs, q1, q2, q3, q4⟩ := hh
    have e3 : Ext h2 (h2.push 1 [Value.slice ra rn rc]) := .push _ _ _
    have o3 : Own (h2.push 1 [Value.slice ra rn rc]) h2.next 1 [Value.slice ra rn rc] := Own.push _ _ _
    have r3 : RowV (h2.push 1 [Value.slice ra rn rc]) (some ⟨h2.next, 0, none⟩) 1 1 [Value.slice ra rn rc] := .inl ⟨⟨rfl, Nat.lt_succ_self _, by rw [o3.readG (by simp)]; rfl⟩, (fun q => by cases q), by unfold capLow slack; omega⟩
    obtain ⟨a', c', h', w1, w2, w3, w4, w5⟩ := append_row T67 (q1.ext (e2.trans e3)) r3 (hds_ok hs) rfl (by omega)
    obtain ⟨x1, x2⟩ := w3 h0 (e.trans (e2.trans e3)) q2
    refine app_ok hA w1 ?_
    ((try (conv => cbv)); repeat (refine brk_ok hA ?_; (try (conv => cbv))))
    rw [add64 hA (by omega) (by omega)]
    refine ih c1 h' a' (n + 1) c' x1 ?_ (by omega)
    rw [take_bat ins hi0 (by omega)]
    refine ⟨hs ++ [⟨ra, rn, rc⟩], by rw [List.map_append]; exact w2, x2, by simp [q3], fun j x l hx hl => ?_⟩
    rcases Nat.lt_trichotomy j hs.length with c | c | c
    · rw [List.getElem?_append_left c] at hx
      rw [List.getElem?_append_left (by omega)] at hl
      exact q4 j x l hx hl
    · subst c
      rw [List.getElem?_append_right (Nat.le_refl _), Nat.sub_self] at hx
      rw [q3, List.getElem?_append_right (Nat.le_refl _), Nat.sub_self] at hl
      simp only [List.getElem?_cons_zero, Option.some.injEq] at hx hl
      subst hx hl
      exact hb2
    · rw [List.getElem?_eq_none (by simp; omega)] at hx
      cases hx
  · rw [List.take_of_length_le (by omega)] at hh
    exact h1 a n c h e hh (by omega)

set_option maxHeartbeats 1000000 in
theorem made_ok {h : AHeap} (hlow : h.low ≤ h.next) {x : RH} {r : Rec} (hx : RelR h x r) (hk : kindP r.how r.frm.length r.arg r.data.length) (hor : okR r) {p1 p2 : Nat} {ins : List Bytes} (hg : GivesB call h [.pointer (some ⟨p1, 0, none⟩), .pointer (some ⟨p2, 0, none⟩)] ins) (hin : ins.length = r.frm.length) (h1000 : ∀ b ∈ ins, b.length ≤ 1000) (hokB : ∀ b ∈ ins, okB b) {Q : Value → AHeap → Prop}
    (hQ : ∀ a n c h', Ext h h' → BMem h' h.next a n c (madeS r ins) → Q (.slice a n c) h') : call 43 [.agg x.cells.toArray, .func (.func 44) #[] #[.pointer (some ⟨p1, 0, none⟩), .pointer (some ⟨p2, 0, none⟩)]] h Q := by
  obtain ⟨nm, how, fa, fn, fc, arg, da, dn, dc, dg⟩ := x
  obtain ⟨rname, rhow, rfrm, rarg, rdata, rdig⟩ := r
  obtain ⟨q1, q2, q3, q4, q5, q6⟩ := hx
  simp only [] at q1 q2 q3 q4 q5 q6 hk hin
  subst q1 q2 q3 q4
  have lf := q5.len
  have ld := q6.len
  rw [lf, ld] at hk
  rw [lf] at hin
  have b0 := bat_len h1000 0
  have b1 := bat_len h1000 1
  have o0 := bat_okB hokB 0
  have o1 := bat_okB hokB 1
  unfold madeS at hQ
  simp only [] at hQ
  refine hA.bodyR Try.func43 r43_ok (show prims _ _ _ = none from rfl) hlow ?_; (try (conv => cbv)); repeat (refine brk_ok hA ?_; (try (conv => cbv)))
  refine br (how = 1) (by rw [e_eql hA]) (fun k1 => ?_) (fun k1 => ?_) <;> (try (conv => cbv)) <;> repeat (refine brk_ok hA ?_; (try (conv => cbv)))
  · rw [if_pos k1] at hQ
    rw [e_next hA, e_push hA]
    obtain ⟨h1, hh1⟩ : ∃ v, v = h.push 1 [.slice da dn dc] := ⟨_, rfl⟩
    have e1 : Ext h h1 := by rw [hh1]; exact .push _ _ _
    have hl1 := Lists.one q6 hh1
    rw [← hh1]
    refine join_ok hA (e1.lowOK hlow) hl1 (by omega) (by simp; unfold kindP at hk; omega) (fun a2 n2 c2 h2 e2 hb2 => ⟨_, _, _, rfl, ?_⟩)
    ((try (conv => cbv)); repeat (refine brk_ok hA ?_; (try (conv => cbv))))
    have hb3 := hb2.mem.lower (lo' := h.next) e1.next
    simp only [List.flatten_cons, List.flatten_nil, List.append_nil] at hb3
    exact hQ _ _ _ h2 (e1.trans e2) hb3
  rw [if_neg k1] at hQ
  refine br (how = 2) (by rw [e_eql hA]) (fun k2 => ?_) (fun k2 => ?_) <;> (try (conv => cbv)) <;> repeat (refine brk_ok hA ?_; (try (conv => cbv)))
  · rw [if_pos k2] at hQ
    refine lists_loop hA hlow rfl hg hin (by unfold kindP at hk; omega) (fun a2 n2 c2 h2 e2 hh2 hn2 => ?_) 0 (by omega) (by omega) h none 0 0 (.refl _) ⟨[], Apd.nil _ _, From.none _, by simp, fun j x l hx => by simp at hx⟩ rfl
    subst hn2
    ((try (conv => cbv)); repeat (refine brk_ok hA ?_; (try (conv => cbv))))
    obtain ⟨hs, w1, w2, w3, w4⟩ := hh2
    have hl2 : Lists h2 a2 n2 ins := ⟨hs, w1.cells, w3, fun i x l hx hl => (w4 i x l hx hl).ext e2⟩
    have hfl := flatten_len h1000
    refine join_ok hA (e2.lowOK hlow) hl2 (by unfold kindP at hk; omega) (by unfold kindP at hk; omega) (fun a3 n3 c3 h3 e3 hb3 => ⟨_, _, _, rfl, ?_⟩)
    ((try (conv => cbv)); repeat (refine brk_ok hA ?_; (try (conv => cbv))))
    exact hQ _ _ _ h3 (e2.trans e3) (hb3.mem.lower e2.next)
  rw [if_neg k2] at hQ
  refine br (how = 6) (by rw [e_eql hA]) (fun k6 => ?_) (fun k6 => ?_) <;> (try (conv => cbv)) <;> repeat (refine brk_ok hA ?_; (try (conv => cbv)))
  · rw [if_pos k6] at hQ
    refine hg 0 h _ (by omega) (by unfold kindP at hk; omega) (.refl _) (fun a2 n2 c2 h2 e2 hb2 => ⟨_, _, _, rfl, ?_⟩)
    ((try (conv => cbv)); repeat (refine brk_ok hA ?_; (try (conv => cbv))))
    refine hg 1 h2 _ (by omega) (by unfold kindP at hk; omega) e2 (fun a3 n3 c3 h3 e3 hb3 => ⟨_, _, _, rfl, ?_⟩)
    ((try (conv => cbv)); repeat (refine brk_ok hA ?_; (try (conv => cbv))))
    have e23 := e2.trans e3
    have n2l := hb2.len
    have n3l := hb3.len
    refine mixed_ok hA (e23.lowOK hlow) (hb2.ext e23) (hb3.ext e23) o0 o1 (by omega) (by omega) (fun a4 n4 c4 h4 e4 hb4 => ⟨_, _, _, rfl, ?_⟩)
    ((try (conv => cbv)); repeat (refine brk_ok hA ?_; (try (conv => cbv))))
    exact hQ _ _ _ h4 (e23.trans e4) (hb4.lower e23.next)
  rw [if_neg k6] at hQ
  refine hg 0 h _ (by omega) (by unfold kindP at hk; omega) (.refl _) (fun a2 n2 c2 h2 e2 hb2 => ⟨_, _, _, rfl, ?_⟩)
  ((try (conv => cbv)); repeat (refine brk_ok hA ?_; (try (conv => cbv))))
  rw [e_next hA, e_push hA]
  obtain ⟨h3, hh3⟩ : ∃ v, v = h2.push 1 [.slice a2 n2 c2] := ⟨_, rfl⟩
  have e3 : Ext h2 h3 := by rw [hh3]; exact .push _ _ _
  have hl3 := Lists.one (hb2.ext e2) hh3
  rw [← hh3]
  have e23 := e2.trans e3
  refine join_ok hA (e23.lowOK hlow) hl3 (by omega) (by simp; omega) (fun a4 n4 c4 h4 e4 hb4 => ⟨_, _, _, rfl, ?_⟩)
  ((try (conv => cbv)); repeat (refine brk_ok hA ?_; (try (conv => cbv))))
  simp only [List.flatten_cons, List.flatten_nil, List.append_nil] at hb4
  have e4' := e23.trans e4
  have hm4 : BMem h4 h.next a4 n4 c4 (bat ins 0) := hb4.mem.lower e23.next
  have l4 := hm4.len
  refine br (how = 3) (by rw [e_eql hA]) (fun k3 => ?_) (fun k3 => ?_) <;> (try (conv => cbv)) <;> repeat (refine brk_ok hA ?_; (try (conv => cbv)))
  · rw [if_pos k3] at hQ
    rw [e_ofNat hA, sub64 hA (by omega) (by omega)]
    obtain ⟨jj, hjj⟩ : ∃ v, v = (n4 : Int) - 1 := ⟨_, rfl⟩
    rw [← hjj]
    refine rev_loop hA hlow (b := bat ins 0) (by omega) (fun h5 kn K e5 hm5 => ?_) 0 (by omega) (by omega) jj (by omega) h4 e4' (by rw [partR_zero]; exact hm4)
    ((try (conv => cbv)); repeat (refine brk_ok hA ?_; (try (conv => cbv))))
    exact hQ _ _ _ h5 e5 hm5
  rw [if_neg k3] at hQ
  refine br (how = 4) (by rw [e_eql hA]) (fun k4 => ?_) (fun k4 => ?_) <;> (try (conv => cbv)) <;> repeat (refine brk_ok hA ?_; (try (conv => cbv)))
  · rw [if_pos k4] at hQ
    obtain ⟨jj, hjj⟩ : ∃ v, v = imin arg (ofNat n4) := ⟨_, rfl⟩
    have hjj' : jj = if (n4 : Int) < arg then (n4 : Int) else arg := by rw [hjj, e_imin hA, e_ofNat hA]
    rw [← hjj]
    have hj0 : 0 ≤ jj ∧ jj ≤ n4 := by rw [hjj']; unfold kindP at hk; split <;> omega
    have hcap := hb4.apd.cap (by unfold slack; omega)
    refine ⟨by rw [e_cut hA]; omega, ?_⟩
    ((try (conv => cbv)); repeat (refine brk_ok hA ?_; (try (conv => cbv))))
    have hno : nat jj = jj.toNat := by rw [e_nat hA]
    rw [hno]
    refine hQ _ _ _ h4 e4' ?_
    have hmc := hm4.cut (j := jj.toNat) (by omega)
    have : (bat ins 0).take jj.toNat = (bat ins 0).take arg.toNat := by
      rw [hjj']
      split
      · rw [List.take_of_length_le (by omega), List.take_of_length_le (by omega)]
      · rfl
    rw [this] at hmc
    exact hmc
  rw [if_neg k4] at hQ
  refine br (how = 5) (by rw [e_eql hA]) (fun k5 => ?_) (fun k5 => ?_) <;> (try (conv => cbv)) <;> repeat (refine brk_ok hA ?_; (try (conv => cbv)))
  · rw [if_pos k5] at hQ
    refine shift_loop hA hlow (b := bat ins 0) o0 (by omega) (x := ⟨nm, how, fa, fn, fc, arg, da, dn, dc, dg⟩) (by unfold kindP at hk; simp only []; omega) (by unfold kindP at hk; simp only []; omega) (fun h5 kn K e5 hm5 => ?_) 0 (by omega) (by omega) h4 e4' (by rw [partS_zero]; exact hm4)
    ((try (conv => cbv)); repeat (refine brk_ok hA ?_; (try (conv => cbv))))
    exact hQ _ _ _ h5 e5 hm5
  rw [if_neg k5] at hQ
  refine br (how = 7) (by rw [e_eql hA]) (fun k7 => ?_) (fun k7 => ?_) <;> (try (conv => cbv)) <;> repeat (refine brk_ok hA ?_; (try (conv => cbv)))
  · refine every_loop hA (e4'.lowOK hlow) (b := bat ins 0) hm4.byts (by omega) (x := ⟨nm, how, fa, fn, fc, arg, da, dn, dc, dg⟩) (by unfold kindP at hk; simp only []; omega) (by unfold kindP at hk; simp only []; omega) rfl (fun a5 n5 c5 h5 kn K e5 hb5 => ?_) (bat ins 0).length 0 (by omega) (by omega) (by omega) h4 none 0 0 [] (.refl _) (BOut.nil _ _) (by omega) rfl
    ((try (conv => cbv)); repeat (refine brk_ok hA ?_; (try (conv => cbv))))
    exact hQ _ _ _ h5 (e4'.trans e5) (hb5.mem.lower e4'.next)
  · unfold kindP at hk
    omega

end Go.Proofs.Ytopppccddnplkaa
