/-
  clean.copied, clean.cells: images that are made in a list made ahead.
-/
import Derived.Test.YtogofeppflindaaCCopy
namespace Go.Proofs.Ytogofeppflindaa
open Go.Sim
set_option linter.unusedVariables false
set_option maxRecDepth 100000

theorem set_snoc (g : Grid) (i : Nat) (hi : i ≤ g.length) (r r' : List Int) : (g.take i ++ [r]).set i r' = g.take i ++ [r'] := by
  have hl : (g.take i).length = i := by simp; omega
  apply List.ext_getElem?
  intro j
  rw [List.getElem?_set]
  by_cases e : i = j
  · subst e
    rw [if_pos rfl, if_pos (by simp; omega), List.getElem?_append_right (by omega), hl]; simp
  · rw [if_neg e]
    by_cases hj : j < i
    · rw [List.getElem?_append_left (by omega), List.getElem?_append_left (by omega)]
    · rw [List.getElem?_eq_none (by simp; omega), List.getElem?_eq_none (by simp; omega)]

theorem rowAt_snoc (g : Grid) {i : Int} (h0 : 0 ≤ i) (hi : i ≤ g.length) (r : List Int) : rowAt (g.take i.toNat ++ [r]) i = r := by
  have hl : (g.take i.toNat).length = i.toNat := by simp; omega
  unfold rowAt
  rw [List.getD, List.getElem?_append_right (by omega), hl]; simp

theorem snoc_len (g : Grid) {i : Int} (h0 : 0 ≤ i) (hi : i ≤ g.length) (r : List Int) : ((g.take i.toNat ++ [r]).length : Int) = i + 1 := by
  simp; omega

variable {call : FuncId → List Value → AHeap → (Value → AHeap → Prop) → Prop}
  {head : FuncId → Nat → Nat → SS → (Exit → SS → Prop) → Prop}
  {arith : BinOp → IntKind → Int → Int → Int}
  {cmp : BinOp → Int → Int → Bool}
  {scmp : BinOp → ByteArray → ByteArray → Bool}
  {bnot : Bool → Bool}
  {bsame : Bool → Bool → Bool}
  {conv : IntKind → Int → Int}
  {neg : IntKind → Int → Int}
  {imax : Int → Int → Int}
  {imin : Int → Int → Int}
  {ofNat : Nat → Int}
  {slen : ByteArray → Int}
  {place : Nat → Int → Nat → Nat}
  {inR : Int → Nat → Prop}
  {nz : Int → Prop}
  {geZ : Int → Prop}
  {rd : AHeap → Nat → Nat → Nat → List Value → Prop}
  {wr : AHeap → Nat → Nat → List Value → AHeap → Prop}
  {push : AHeap → Nat → List Value → AHeap}
  {next : AHeap → Nat}
  {mkOK : Int → Int → Prop}
  {nat : Int → Nat}
  {zeros : List Value → Int → List Value}
  {sadd : ByteArray → ByteArray → (ByteArray → Prop) → Prop}
  {eqAgg : TypeId → Array Value → Array Value → (Bool → Prop) → Prop}
  {cut : Nat → Int → Prop}
  {slc : TypeId → Value → Option Value → Option Value → Option Value → (Option Addr → Nat → Nat → Prop) → Prop}
  {sslc : TypeId → ByteArray → Option Value → Option Value → (ByteArray → Prop) → Prop}
  {strAt : ByteArray → Int → (Int → Prop) → Prop}
  {part : TypeId → Array Value → Nat → Value → Prop}
  {app : List TypeId → List Value → AHeap → (Option Addr → Nat → Nat → AHeap → Prop) → Prop}
  {cpy : List TypeId → List Value → AHeap → (Int → AHeap → Prop) → Prop}
  {putAt : AHeap → Nat → Nat → List Value → AHeap}
  {fresh : AHeap → AHeap}
  {lowered : AHeap → AHeap → AHeap}
  {bump : AHeap → Nat → AHeap}
  {wrote : AHeap → AHeap → Bool}
  {addN : Nat → Nat → Nat}
  {lt : Nat → Nat → Prop}
  {ne : Nat → Nat → Prop}
  {fpAll : Bool → Bool → Bool → Nat → Nat → Prop}
  {brk : (Unit → Prop) → Prop}
  {yn : Nat → Nat}
  {rng : FuncId → Nat → SS → (Exit → SS → Prop) → Prop}
  {mget : TypeId → Value → Value → AHeap → Value → Bool → Prop}
  {mput : TypeId → Value → Value → Value → AHeap → AHeap → Prop}
  {mnew : AHeap → AHeap}
  {bytes : TypeId → TypeId → Option Addr → Nat → AHeap → ByteArray → Prop}
  {clr : List TypeId → List Value → AHeap → AHeap → Prop}
  (hA : AOK progU hint prims ⟨call, head, arith, cmp, scmp, bnot, bsame, conv, neg, imax, imin, ofNat, slen, place, inR, nz, geZ, rd, wr, push, next, mkOK, nat, zeros, sadd, eqAgg, cut, slc, sslc, strAt, part, app, cpy, putAt, fresh, lowered, bump, wrote, addN, lt, ne, fpAll, brk, yn, rng, mget, mput, mnew, bytes, clr⟩)
include hA

theorem copied_loop {h0 : AHeap} (hlow0 : h0.low ≤ h0.next) {a : Option Addr} {m c : Nat} {g : Grid} (hg : Img h0 a m g) (hs : shp g m) (hm1 : 1 ≤ (m : Int)) (hm : (m : Int) ≤ 1000) {B c3 : Nat} {Q : Exit → SS → Prop}
    (hQ : ∀ bs h', Ext h0 h' → OImg h' h0.next (some ⟨B, 0, none⟩) m bs g → Q (.exit 0) ⟨[(3, .slice (some ⟨B, 0, none⟩) m c3)], 0, [], h'⟩) :
    ∀ i : Int, 0 ≤ i → i ≤ m → ∀ h bs, Ext h0 h → FImg h h0.next B m bs (g.take i.toNat) → head 31 3 0 ⟨[(3, .slice (some ⟨B, 0, none⟩) m c3), (9, .slice a m c), (10, .int .i64 (ofNat m)), (11, .int .i64 i)], 0, [], h⟩ Q := by
  have hl := hg.len
  refine countUp (fun i hi0 him ih h bs e hb => ?_)
  refine hA.roundR Try.func31 r31_ok ?_; (try (conv => cbv)); repeat (refine brk_ok hA ?_; (try (conv => cbv)))
  refine br (i < m) (by rw [e_lss hA, e_ofNat hA]) (fun c1 => ?_) (fun c1 => ?_) <;> (try (conv => cbv)) <;> repeat (refine brk_ok hA ?_; (try (conv => cbv)))
  · obtain ⟨b, o, ra, rn, rc, rfl, hbn, hrd, hrow, hrl⟩ := (hg.ext e).row hi0 c1
    have hrm := hs.2 i hi0 c1
    refine ⟨b, o, rfl, in_ok hA hi0 c1, ?_⟩
    ((try (conv => cbv)); repeat (refine brk_ok hA ?_; (try (conv => cbv))))
    refine ⟨ra, rn, rc, rd_ok hA hrd, ?_⟩
    ((try (conv => cbv)); repeat (refine brk_ok hA ?_; (try (conv => cbv))))
    refine ⟨mk_ok hA (by rw [e_ofNat hA]; omega) (Int.le_refl _) (by rw [e_ofNat hA]; omega), ?_⟩
    ((try (conv => cbv)); repeat (refine brk_ok hA ?_; (try (conv => cbv))))
    obtain ⟨h1, hh1⟩ : ∃ x, x = h.push 1 ((List.replicate rn (0 : Int)).map (.int .i64)) := ⟨_, rfl⟩
    obtain ⟨b0, hb0⟩ : ∃ x, x = h.next := ⟨_, rfl⟩
    have e1 : Ext h h1 := by rw [hh1]; exact .push _ _ _
    have ho1 : Own h1 b0 1 ((List.replicate rn (0 : Int)).map (.int .i64)) := by rw [hh1, hb0]; exact Own.push _ _ _
    have hb1 : b0 < h1.next := by rw [hh1, hb0]; simp [AHeap.push]
    have p1 : push h 1 (zeros [.int .i64 0] (ofNat rn)) = h1 := by rw [hh1, e_push hA, e_zeros hA, e_ofNat hA, Int.toNat_natCast, copies_ints]
    have p2 : next h = b0 := by rw [hb0, e_next hA]
    have p3 : nat (ofNat rn) = rn := by rw [e_nat hA, e_ofNat hA, Int.toNat_natCast]
    rw [p1, p2, p3]
    have htl : ((g.take i.toNat).length : Int) = i := by simp; omega
    obtain ⟨h2, w1, w2, w3⟩ := hb.add e1 (rn := rn) (rc := rn) (by omega) ho1 hb1 (by simp) (by omega) (i := i) (by omega) e.next
    refine ⟨B, 0, rfl, in_ok hA hi0 c1, ?_⟩
    ((try (conv => cbv)); repeat (refine brk_ok hA ?_; (try (conv => cbv))))
    refine ⟨h2, wr_ok hA w1, ?_⟩
    ((try (conv => cbv)); repeat (refine brk_ok hA ?_; (try (conv => cbv))))
    refine ⟨B, 0, rfl, in_ok hA hi0 c1, ?_⟩
    ((try (conv => cbv)); repeat (refine brk_ok hA ?_; (try (conv => cbv))))
    obtain ⟨rb, rn', rc', s1, s2, s3, s4, s5, s6, s7⟩ := w2.at hi0 (by rw [snoc_len g hi0 (by omega)]; omega)
    rw [rowAt_snoc g hi0 (by omega)] at s2 s4
    have hsn : rn' = rn := by rw [← s2]; simp
    subst hsn
    have e2 : Ext h0 h2 := w3.ext (e.trans e1) w2.frm
    refine ⟨some ⟨rb, 0, none⟩, rn', rc', rd_ok hA s1, ?_⟩
    ((try (conv => cbv)); repeat (refine brk_ok hA ?_; (try (conv => cbv))))
    have hrowI : Ints h2 .i64 ra rn' (rowAt g i) ∧ ra ≠ none := by
      obtain ⟨b9, o9, ra9, rn9, rc9, hq1, hq2, hq3, hq4, hq5⟩ := hg.row hi0 c1
      cases hq1
      have hq3' : h.readG ⟨b, o + i.toNat * 1, none⟩ 1 = some [.slice ra9 rn9 rc9] := by
        have : (hg.ext e).row hi0 c1 = (hg.ext e).row hi0 c1 := rfl
        unfold AHeap.readG AHeap.cells? at hq3 ⊢
        rw [e.get _ hq2]
        exact hq3
      rw [hrd] at hq3'
      simp only [Option.some.injEq, List.cons.injEq, Value.slice.injEq, and_true] at hq3'
      obtain ⟨rfl, rfl, rfl⟩ := hq3'
      rcases hq4 with ⟨q, _⟩ | ⟨_, q, _⟩
      · refine ⟨q.ext e2, fun q0 => ?_⟩
        subst q0
        have := q.cells.1
        omega
      · omega
    obtain ⟨h3, x1, x2, x3⟩ := row_copy (rc := rc') (cc := rc) s4 s2 hrowI.1 hrowI.2
    refine cpy_ok hA x1 ?_
    ((try (conv => cbv)); repeat (refine brk_ok hA ?_; (try (conv => cbv))))
    rw [add64 hA (by omega) (by omega)]
    have w4 := w2.setR hi0 (by rw [snoc_len g hi0 (by omega)]; omega) s3 (r := rowAt g i) (by rw [rowAt_snoc g hi0 (by omega)]; simp; have := hrow.len; omega) x2 x3
    rw [set_snoc g i.toNat (by omega), ← take_row hi0 (by omega)] at w4
    exact ih c1 h3 _ (x3.ext e2 s6) w4
  · have : i = m := by omega
    subst this
    rw [Int.toNat_natCast, ← hl, List.take_length, hl] at hb
    exact hQ bs h e (hb.done hl)

theorem copied_ok2 {h : AHeap} (hlow : h.low ≤ h.next) {a : Option Addr} {m c : Nat} {g : Grid} (hg : Img h a m g) (hs : shp g m) (hm1 : 1 ≤ (m : Int)) (hm : (m : Int) ≤ 1000) {Q : Value → AHeap → Prop}
    (hQ : ∀ a' c' bs h', From h.next a' → Ext h h' → OImg h' h.next a' m bs g → Q (.slice a' m c') h') : call 31 [.slice a m c] h Q := by
  refine hA.bodyR Try.func31 r31_ok (show prims _ _ _ = none from rfl) hlow ?_; (try (conv => cbv)); repeat (refine brk_ok hA ?_; (try (conv => cbv)))
  refine ⟨mk_ok hA (by rw [e_ofNat hA]; omega) (Int.le_refl _) (by rw [e_ofNat hA]; omega), ?_⟩
  ((try (conv => cbv)); repeat (refine brk_ok hA ?_; (try (conv => cbv))))
  obtain ⟨h1, hh1⟩ : ∃ x, x = h.push 1 (copies [.slice none 0 0] m) := ⟨_, rfl⟩
  obtain ⟨b0, hb0⟩ : ∃ x, x = h.next := ⟨_, rfl⟩
  have p1 : push h 1 (zeros [.slice none 0 0] (ofNat m)) = h1 := by rw [hh1, e_push hA, e_zeros hA, e_ofNat hA, Int.toNat_natCast]
  have p2 : next h = b0 := by rw [hb0, e_next hA]
  have p3 : nat (ofNat m) = m := by rw [e_nat hA, e_ofNat hA, Int.toNat_natCast]
  rw [p1, p2, p3]
  have hf : FImg h1 h.next b0 m [] [] := by rw [hh1, hb0]; exact FImg.first h (Nat.le_refl _)
  refine copied_loop hA hlow hg hs hm1 hm (fun bs h' e ho => ?_) 0 (by omega) (by omega) h1 [] (by rw [hh1]; exact .push _ _ _) (by simpa using hf)
  ((try (conv => cbv)); repeat (refine brk_ok hA ?_; (try (conv => cbv))))
  exact hQ _ _ bs h' (fun ad had => by cases had; rw [hb0]; exact Nat.le_refl _) e ho

theorem copied_ok {h : AHeap} (hlow : h.low ≤ h.next) {a : Option Addr} {m c : Nat} {g : Grid} (hg : Img h a m g) (hs : shp g m) (hm1 : 1 ≤ (m : Int)) (hm : (m : Int) ≤ 1000) {Q : Value → AHeap → Prop}
    (hQ : ∀ a' c' bs h', Ext h h' → OImg h' h.next a' m bs g → Q (.slice a' m c') h') : call 31 [.slice a m c] h Q :=
  copied_ok2 hA hlow hg hs hm1 hm (fun a' c' bs h' _ e ho => hQ a' c' bs h' e ho)

/-- What a function of two numbers gives, wherever it is called. -/
def Gives (call : FuncId → List Value → AHeap → (Value → AHeap → Prop) → Prop) (h0 : AHeap) (F : FuncId) (caps : List Value) (n : Int) (val : Int → Int → Int) : Prop :=
  ∀ (x y : Int) (h : AHeap) (Q : Value → AHeap → Prop), 0 ≤ x → x < n → 0 ≤ y → y < n → Ext h0 h → (∀ h', Ext h h' → Q (.int .i64 (val y x)) h') → call F (.int .i64 x :: .int .i64 y :: caps) h Q

theorem cells_inner {h0 : AHeap} (hlow0 : h0.low ≤ h0.next) {n : Int} (hn1 : 1 ≤ n) (hn8 : n ≤ 8) {F : FuncId} (hF : F = 43 ∨ F = 45) {caps : List Value} {val : Int → Int → Int} (hv : Gives call h0 F caps n val) {m : Nat} (hmn : (m : Int) = n) {B c3 : Nat} {y : Int} (hy0 : 0 ≤ y) (hy1 : y < n) {Q : Exit → SS → Prop}
    (hQ : ∀ bs h', Ext h0 h' → FImg h' h0.next B m bs ((mkG n val).take (y + 1).toNat) → (∀ x : Int, 0 ≤ x → x < n → within 1000000000 (val y x)) → Q (.exit 2) ⟨[(0, .int .i64 n), (1, .func (.func F) #[] caps.toArray), (6, .slice (some ⟨B, 0, none⟩) m c3), (13, .int .i64 n), (14, .int .i64 y)], 0, [], h'⟩)
    (hbad : ∀ e kn K h', Ext h0 h' → (∃ y x : Int, 0 ≤ y ∧ y < n ∧ 0 ≤ x ∧ x < n ∧ ¬ within 1000000000 (val y x)) → Q .ret ⟨(5, .int .i64 16) :: (4, .slice none 0 0) :: e, kn, K, h'⟩) :
    ∀ x : Int, 0 ≤ x → x ≤ m → ∀ h bs, Ext h0 h → FImg h h0.next B m bs ((mkG n val).take y.toNat ++ [fillTo (rowAt (mkG n val) y) m x]) → (∀ x' : Int, 0 ≤ x' → x' < x → within 1000000000 (val y x')) →
      head 42 7 0 ⟨[(0, .int .i64 n), (1, .func (.func F) #[] caps.toArray), (6, .slice (some ⟨B, 0, none⟩) m c3), (7, .int .i64 y), (13, .int .i64 n), (14, .int .i64 y), (26, .int .i64 n), (27, .int .i64 x)], 0, [], h⟩ Q := by
  have hs : shp (mkG n val) n := mkG_shp (by omega) _
  have hsl := hs.1
  have hrl := hs.2 y hy0 hy1
  have hrlm : (rowAt (mkG n val) y).length = m := by omega
  refine countUp (fun x hx0 hxm ih h bs e hb hall => ?_)
  refine hA.roundR Try.func42 r42_ok ?_; (try (conv => cbv)); repeat (refine brk_ok hA ?_; (try (conv => cbv)))
  refine br (x < n) (by rw [e_lss hA]) (fun c1 => ?_) (fun c1 => ?_) <;> (try (conv => cbv)) <;> repeat (refine brk_ok hA ?_; (try (conv => cbv)))
  · rcases hF with rfl | rfl
    · ((try (conv => cbv)); repeat (refine brk_ok hA ?_; (try (conv => cbv))))
      refine hv x y h _ hx0 c1 hy0 hy1 e (fun h1 e1 => ⟨_, rfl, ?_⟩)
      obtain ⟨d, hd⟩ : ∃ d, d = val y x := ⟨_, rfl⟩
      rw [← hd]
      ((try (conv => cbv)); repeat (refine brk_ok hA ?_; (try (conv => cbv))))
      refine inRange_ok hA ((e.trans e1).lowOK hlow0) (fun r hr => ⟨_, rfl, ?_⟩)
      ((try (conv => cbv)); repeat (refine brk_ok hA ?_; (try (conv => cbv))))
      cases r with
      | false =>
        ((try (conv => cbv)); repeat (refine brk_ok hA ?_; (try (conv => cbv))))
        refine br (True) (by rw [e_bnot hA]; rfl) (fun _ => ?_) (fun q => absurd trivial q) <;> (try (conv => cbv)) <;> repeat (refine brk_ok hA ?_; (try (conv => cbv)))
        exact hbad _ _ _ h1 (e.trans e1) ⟨y, x, hy0, hy1, hx0, c1, fun q => by rw [← hd] at q; have := hr.2 q; cases this⟩
      | true =>
        ((try (conv => cbv)); repeat (refine brk_ok hA ?_; (try (conv => cbv))))
        refine br (False) (by rw [e_bnot hA]; rfl) (fun q => q.elim) (fun _ => ?_) <;> (try (conv => cbv)) <;> repeat (refine brk_ok hA ?_; (try (conv => cbv)))
        have hb1 := hb.ext e1
        obtain ⟨rb, rn, rc, s1, s2, s3, s4, s5, s6, s7⟩ := hb1.at hy0 (by rw [snoc_len (mkG n val) hy0 (by omega)]; omega)
        rw [rowAt_snoc (mkG n val) hy0 (by omega)] at s2 s4
        have hfl := fill_len hrlm x (by omega)
        refine ⟨B, 0, rfl, in_ok hA hy0 (by omega), ?_⟩
        ((try (conv => cbv)); repeat (refine brk_ok hA ?_; (try (conv => cbv))))
        refine ⟨some ⟨rb, 0, none⟩, rn, rc, rd_ok hA s1, ?_⟩
        ((try (conv => cbv)); repeat (refine brk_ok hA ?_; (try (conv => cbv))))
        refine ⟨rb, 0, rfl, in_ok hA hx0 (by omega), ?_⟩
        ((try (conv => cbv)); repeat (refine brk_ok hA ?_; (try (conv => cbv))))
        obtain ⟨h2, w1, w2, w3⟩ := s4.setInt (i := x.toNat) (by omega) d
        refine ⟨h2, wr_ok hA (by rw [Nat.zero_add, Nat.mul_one]; exact w1), ?_⟩
        ((try (conv => cbv)); repeat (refine brk_ok hA ?_; (try (conv => cbv))))
        rw [add64 hA (by omega) (by omega)]
        have w4 := hb1.setR hy0 (by rw [snoc_len (mkG n val) hy0 (by omega)]; omega) s3 (r := (fillTo (rowAt (mkG n val) y) m x).set x.toNat d) (by rw [rowAt_snoc (mkG n val) hy0 (by omega)]; simp) w2 w3
        have hdv : d = at' (rowAt (mkG n val) y) x := by rw [hd]; exact (mkG_cell val hy0 hy1 hx0 c1).symm
        rw [set_snoc (mkG n val) y.toNat (by omega), hdv, fill_set hrlm hx0 (by omega)] at w4
        refine ih (by omega) h2 _ (w3.ext (e.trans e1) s6) w4 (fun x' h3 h4 => ?_)
        by_cases e9 : x' = x
        · rw [e9, ← hd]; exact hr.1 rfl
        · exact hall x' h3 (by omega)
    · ((try (conv => cbv)); repeat (refine brk_ok hA ?_; (try (conv => cbv))))
      refine hv x y h _ hx0 c1 hy0 hy1 e (fun h1 e1 => ⟨_, rfl, ?_⟩)
      obtain ⟨d, hd⟩ : ∃ d, d = val y x := ⟨_, rfl⟩
      rw [← hd]
      ((try (conv => cbv)); repeat (refine brk_ok hA ?_; (try (conv => cbv))))
      refine inRange_ok hA ((e.trans e1).lowOK hlow0) (fun r hr => ⟨_, rfl, ?_⟩)
      ((try (conv => cbv)); repeat (refine brk_ok hA ?_; (try (conv => cbv))))
      cases r with
      | false =>
        ((try (conv => cbv)); repeat (refine brk_ok hA ?_; (try (conv => cbv))))
        refine br (True) (by rw [e_bnot hA]; rfl) (fun _ => ?_) (fun q => absurd trivial q) <;> (try (conv => cbv)) <;> repeat (refine brk_ok hA ?_; (try (conv => cbv)))
        exact hbad _ _ _ h1 (e.trans e1) ⟨y, x, hy0, hy1, hx0, c1, fun q => by rw [← hd] at q; have := hr.2 q; cases this⟩
      | true =>
        ((try (conv => cbv)); repeat (refine brk_ok hA ?_; (try (conv => cbv))))
        refine br (False) (by rw [e_bnot hA]; rfl) (fun q => q.elim) (fun _ => ?_) <;> (try (conv => cbv)) <;> repeat (refine brk_ok hA ?_; (try (conv => cbv)))
        have hb1 := hb.ext e1
        obtain ⟨rb, rn, rc, s1, s2, s3, s4, s5, s6, s7⟩ := hb1.at hy0 (by rw [snoc_len (mkG n val) hy0 (by omega)]; omega)
        rw [rowAt_snoc (mkG n val) hy0 (by omega)] at s2 s4
        have hfl := fill_len hrlm x (by omega)
        refine ⟨B, 0, rfl, in_ok hA hy0 (by omega), ?_⟩
        ((try (conv => cbv)); repeat (refine brk_ok hA ?_; (try (conv => cbv))))
        refine ⟨some ⟨rb, 0, none⟩, rn, rc, rd_ok hA s1, ?_⟩
        ((try (conv => cbv)); repeat (refine brk_ok hA ?_; (try (conv => cbv))))
        refine ⟨rb, 0, rfl, in_ok hA hx0 (by omega), ?_⟩
        ((try (conv => cbv)); repeat (refine brk_ok hA ?_; (try (conv => cbv))))
        obtain ⟨h2, w1, w2, w3⟩ := s4.setInt (i := x.toNat) (by omega) d
        refine ⟨h2, wr_ok hA (by rw [Nat.zero_add, Nat.mul_one]; exact w1), ?_⟩
        ((try (conv => cbv)); repeat (refine brk_ok hA ?_; (try (conv => cbv))))
        rw [add64 hA (by omega) (by omega)]
        have w4 := hb1.setR hy0 (by rw [snoc_len (mkG n val) hy0 (by omega)]; omega) s3 (r := (fillTo (rowAt (mkG n val) y) m x).set x.toNat d) (by rw [rowAt_snoc (mkG n val) hy0 (by omega)]; simp) w2 w3
        have hdv : d = at' (rowAt (mkG n val) y) x := by rw [hd]; exact (mkG_cell val hy0 hy1 hx0 c1).symm
        rw [set_snoc (mkG n val) y.toNat (by omega), hdv, fill_set hrlm hx0 (by omega)] at w4
        refine ih (by omega) h2 _ (w3.ext (e.trans e1) s6) w4 (fun x' h3 h4 => ?_)
        by_cases e9 : x' = x
        · rw [e9, ← hd]; exact hr.1 rfl
        · exact hall x' h3 (by omega)
  · have hxn : x = m := by omega
    rw [hxn, fill_end hrlm (by omega), ← take_row hy0 (by omega)] at hb
    exact hQ bs h e hb (fun x' h1 h2 => hall x' h1 (by omega))

theorem cells_outer {h0 : AHeap} (hlow0 : h0.low ≤ h0.next) {n : Int} (hn1 : 1 ≤ n) (hn8 : n ≤ 8) {F : FuncId} (hF : F = 43 ∨ F = 45) {caps : List Value} {val : Int → Int → Int} (hv : Gives call h0 F caps n val) {m : Nat} (hmn : (m : Int) = n) {B c3 : Nat} {Q : Exit → SS → Prop}
    (hQ : ∀ bs h', Ext h0 h' → OImg h' h0.next (some ⟨B, 0, none⟩) m bs (mkG n val) → (∀ y x : Int, 0 ≤ y → y < n → 0 ≤ x → x < n → within 1000000000 (val y x)) → Q (.exit 0) ⟨[(6, .slice (some ⟨B, 0, none⟩) m c3)], 0, [], h'⟩)
    (hbad : ∀ e kn K h', Ext h0 h' → (∃ y x : Int, 0 ≤ y ∧ y < n ∧ 0 ≤ x ∧ x < n ∧ ¬ within 1000000000 (val y x)) → Q .ret ⟨(5, .int .i64 16) :: (4, .slice none 0 0) :: e, kn, K, h'⟩) :
    ∀ y : Int, 0 ≤ y → y ≤ m → ∀ h bs, Ext h0 h → FImg h h0.next B m bs ((mkG n val).take y.toNat) → (∀ y' x : Int, 0 ≤ y' → y' < y → 0 ≤ x → x < n → within 1000000000 (val y' x)) →
      head 42 3 0 ⟨[(0, .int .i64 n), (1, .func (.func F) #[] caps.toArray), (6, .slice (some ⟨B, 0, none⟩) m c3), (13, .int .i64 n), (14, .int .i64 y)], 0, [], h⟩ Q := by
  have hs : shp (mkG n val) n := mkG_shp (by omega) _
  have hsl := hs.1
  refine countUp (fun y hy0 hym ih h bs e hb hall => ?_)
  refine hA.roundR Try.func42 r42_ok ?_; (try (conv => cbv)); repeat (refine brk_ok hA ?_; (try (conv => cbv)))
  refine br (y < n) (by rw [e_lss hA]) (fun c1 => ?_) (fun c1 => ?_) <;> (try (conv => cbv)) <;> repeat (refine brk_ok hA ?_; (try (conv => cbv)))
  · refine ⟨mk_ok hA (by omega) (Int.le_refl _) (by omega), ?_⟩
    ((try (conv => cbv)); repeat (refine brk_ok hA ?_; (try (conv => cbv))))
    obtain ⟨h1, hh1⟩ : ∃ x, x = h.push 1 ((List.replicate m (0 : Int)).map (.int .i64)) := ⟨_, rfl⟩
    obtain ⟨b0, hb0⟩ : ∃ x, x = h.next := ⟨_, rfl⟩
    have e1 : Ext h h1 := by rw [hh1]; exact .push _ _ _
    have ho1 : Own h1 b0 1 ((List.replicate m (0 : Int)).map (.int .i64)) := by rw [hh1, hb0]; exact Own.push _ _ _
    have hb1 : b0 < h1.next := by rw [hh1, hb0]; simp [AHeap.push]
    have p1 : push h 1 (zeros [.int .i64 0] n) = h1 := by rw [hh1, e_push hA, e_zeros hA, copies_ints, show n.toNat = m by omega]
    have p2 : next h = b0 := by rw [hb0, e_next hA]
    have p3 : nat n = m := by rw [e_nat hA]; omega
    rw [p1, p2, p3]
    have htl : (((mkG n val).take y.toNat).length : Int) = y := by rw [List.length_take]; omega
    obtain ⟨h2, w1, w2, w3⟩ := hb.add e1 (rn := m) (rc := m) (by omega) ho1 hb1 (by simp) (by omega) (i := y) (by omega) e.next
    refine ⟨B, 0, rfl, in_ok hA hy0 (by omega), ?_⟩
    ((try (conv => cbv)); repeat (refine brk_ok hA ?_; (try (conv => cbv))))
    refine ⟨h2, wr_ok hA w1, ?_⟩
    ((try (conv => cbv)); repeat (refine brk_ok hA ?_; (try (conv => cbv))))
    refine ⟨B, 0, rfl, in_ok hA hy0 (by omega), ?_⟩
    ((try (conv => cbv)); repeat (refine brk_ok hA ?_; (try (conv => cbv))))
    obtain ⟨rb, rn', rc', s1, s2, s3, s4, s5, s6, s7⟩ := w2.at hy0 (by rw [snoc_len (mkG n val) hy0 (by omega)]; omega)
    rw [rowAt_snoc (mkG n val) hy0 (by omega)] at s2 s4
    have hsn : rn' = m := by rw [← s2]; simp
    have e2 : Ext h0 h2 := w3.ext (e.trans e1) w2.frm
    refine ⟨some ⟨rb, 0, none⟩, rn', rc', rd_ok hA s1, ?_⟩
    ((try (conv => cbv)); repeat (refine brk_ok hA ?_; (try (conv => cbv))))
    have hro : ofNat rn' = n := by rw [e_ofNat hA]; omega
    rw [hro]
    refine cells_inner hA hlow0 hn1 hn8 hF hv hmn hy0 c1 (fun bs h' e' hb' hall' => ?_) (fun e kn K h' e' q => ?_) 0 (by omega) (by omega) h2 _ e2 (by rw [fill_zero]; exact w2) (fun x' h3 h4 => by omega)
    · ((try (conv => cbv)); repeat (refine brk_ok hA ?_; (try (conv => cbv))))
      rw [add64 hA (by omega) (by omega)]
      refine ih (by omega) h' bs e' hb' (fun y' x h3 h4 h5 h6 => ?_)
      by_cases e9 : y' = y
      · rw [e9]; exact hall' x h5 h6
      · exact hall y' x h3 (by omega) h5 h6
    · exact hbad _ _ _ h' e' q
  · have : y = n := by omega
    subst this
    rw [List.take_of_length_le (by omega)] at hb
    exact hQ bs h e (hb.done (by omega)) hall

theorem cells_ok {h : AHeap} (hlow : h.low ≤ h.next) {n : Int} (hn1 : 1 ≤ n) (hn8 : n ≤ 8) {F : FuncId} (hF : F = 43 ∨ F = 45) {caps : List Value} {val : Int → Int → Int} (hv : Gives call h F caps n val) {Q : Value → AHeap → Prop}
    (hok : ∀ a' (m : Nat) c' bs h', (m : Int) = n → Ext h h' → OImg h' h.next a' m bs (mkG n val) → (∀ y x : Int, 0 ≤ y → y < n → 0 ≤ x → x < n → within 1000000000 (val y x)) → Q (.tuple #[.slice a' m c', .int .i64 0]) h')
    (hbad : ∀ h', Ext h h' → (∃ y x : Int, 0 ≤ y ∧ y < n ∧ 0 ≤ x ∧ x < n ∧ ¬ within 1000000000 (val y x)) → Q (.tuple #[.slice none 0 0, .int .i64 16]) h') : call 42 [.int .i64 n, .func (.func F) #[] caps.toArray] h Q := by
  refine hA.bodyR Try.func42 r42_ok (show prims _ _ _ = none from rfl) hlow ?_; (try (conv => cbv)); repeat (refine brk_ok hA ?_; (try (conv => cbv)))
  refine ⟨mk_ok hA (by omega) (Int.le_refl _) (by omega), ?_⟩
  ((try (conv => cbv)); repeat (refine brk_ok hA ?_; (try (conv => cbv))))
  obtain ⟨m, hm⟩ : ∃ m, m = n.toNat := ⟨_, rfl⟩
  obtain ⟨h1, hh1⟩ : ∃ x, x = h.push 1 (copies [.slice none 0 0] m) := ⟨_, rfl⟩
  obtain ⟨b0, hb0⟩ : ∃ x, x = h.next := ⟨_, rfl⟩
  have p1 : push h 1 (zeros [.slice none 0 0] n) = h1 := by rw [hh1, e_push hA, e_zeros hA, hm]
  have p2 : next h = b0 := by rw [hb0, e_next hA]
  have p3 : nat n = m := by rw [e_nat hA, hm]
  have p4 : ofNat m = n := by rw [e_ofNat hA]; omega
  rw [p1, p2, p3, p4]
  have hf : FImg h1 h.next b0 m [] [] := by rw [hh1, hb0]; exact FImg.first h (Nat.le_refl _)
  refine cells_outer hA hlow hn1 hn8 hF hv (by omega) (fun bs h' e ho hall => ?_) (fun e kn K h' e' q => ?_) 0 (by omega) (by omega) h1 [] (by rw [hh1]; exact .push _ _ _) (by simpa using hf) (fun y' x h3 h4 h5 h6 => by omega)
  · ((try (conv => cbv)); repeat (refine brk_ok hA ?_; (try (conv => cbv))))
    exact hok _ m _ bs h' (by omega) e ho hall
  · ((try (conv => cbv)); repeat (refine brk_ok hA ?_; (try (conv => cbv))))
    exact hbad h' e' q

end Go.Proofs.Ytogofeppflindaa
