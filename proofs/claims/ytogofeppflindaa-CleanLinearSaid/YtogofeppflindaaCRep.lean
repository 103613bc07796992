/-
  Replay, of the program and of the reference.
-/
import Derived.Test.YtogofeppflindaaCRef2
import Derived.Test.YtogofeppflindaaCSub2
import Derived.Test.YtogofeppflindaaCCells
namespace Go.Proofs.Ytogofeppflindaa
open Go.Sim
set_option linter.unusedVariables false
set_option maxRecDepth 100000

/-- The components taken away, one behind the other; none: a cell grew too great. -/
inductive Folds (bm : Grid) (n : Int) : Grid → List Comp → Option Grid → Prop
  | nil (g : Grid) : Folds bm n g [] (some g)
  | go {g : Grid} {p : Comp} {l : List Comp} {r : Option Grid} (h : leftOK g bm n p) (t : Folds bm n (subG g bm n p) l r) : Folds bm n g (p :: l) r
  | stop {g : Grid} {p : Comp} {l : List Comp} (h : ¬ leftOK g bm n p) : Folds bm n g (p :: l) none

theorem Folds.uniq {bm : Grid} {n : Int} {g : Grid} {l : List Comp} {r r' : Option Grid} (h : Folds bm n g l r) (h' : Folds bm n g l r') : r = r' := by
  induction h with
  | nil g => cases h'; rfl
  | go k t ih =>
    cases h' with
    | go k' t' => exact ih t'
    | stop k' => exact absurd k k'
  | stop k =>
    cases h' with
    | go k' t' => exact absurd k' k
    | stop k' => rfl

theorem drop_ca {l : List Comp} {i : Int} (h0 : 0 ≤ i) (hi : i < l.length) : l.drop i.toNat = ca l i :: l.drop (i + 1).toNat := by
  rw [toNat_succ h0, List.drop_eq_getElem_cons (by omega : i.toNat < l.length)]
  congr 1
  unfold ca
  rw [List.getD_eq_getElem?_getD, List.getElem?_eq_getElem (by omega)]
  rfl

/-- What Replay answers. -/
def RepIs (img bm : Grid) (l : List Comp) (e : Int) (r : Option Grid) : Prop :=
  (¬ imgP img 1000000 ∧ e = 2 ∧ r = none) ∨ (imgP img 1000000 ∧ ¬ (beamP bm img.length ∧ logP img.length l) ∧ e = 8 ∧ r = none) ∨
    (imgP img 1000000 ∧ beamP bm img.length ∧ logP img.length l ∧ ∃ o, Folds bm img.length img l o ∧ ((o = none ∧ e = 16 ∧ r = none) ∨ (∃ g, o = some g ∧ e = 0 ∧ r = some g)))

theorem RepIs.uniq {img bm : Grid} {l : List Comp} {e e' : Int} {r r' : Option Grid} (h : RepIs img bm l e r) (h' : RepIs img bm l e' r') : e = e' ∧ r = r' := by
  rcases h with ⟨a, rfl, rfl⟩ | ⟨a, b, rfl, rfl⟩ | ⟨a, b, c, o, f, d⟩ <;> rcases h' with ⟨a', rfl, rfl⟩ | ⟨a', b', rfl, rfl⟩ | ⟨a', b', c', o', f', d'⟩
  · exact ⟨rfl, rfl⟩
  · exact absurd a' a
  · exact absurd a' a
  · exact absurd a a'
  · exact ⟨rfl, rfl⟩
  · exact absurd ⟨b', c'⟩ b
  · exact absurd a a'
  · exact absurd ⟨b, c⟩ b'
  · obtain rfl := f.uniq f'
    rcases d with ⟨rfl, rfl, rfl⟩ | ⟨g, rfl, rfl, rfl⟩ <;> rcases d' with ⟨d1, rfl, rfl⟩ | ⟨g', d1, rfl, rfl⟩
    · exact ⟨rfl, rfl⟩
    · cases d1
    · cases d1
    · cases d1; exact ⟨rfl, rfl⟩

theorem subOK_of {g bm : Grid} {n : Int} {p : Comp} (n1 : 1 ≤ n) (n8 : n ≤ 8) (gs : squareP g n 1000000000) (hb : beamP bm n) (hp : compP n p) : SubOK g bm n p where
  n1 := n1
  n8 := n8
  gs := squareP_shp gs
  gb := fun y x h1 h2 h3 h4 => by have := (squareP_iff.1 gs).2 y x h1 h2 h3 h4; unfold within at *; omega
  bs := hb.1
  x0 := hp.1
  x1 := hp.2.1
  y0 := hp.2.2.1
  y1 := hp.2.2.2.1
  f := hp.2.2.2.2

theorem left_square {g bm : Grid} {n : Int} {p : Comp} (n1 : 1 ≤ n) : squareP (subG g bm n p) n 1000000000 ↔ leftOK g bm n p := by
  rw [squareP_iff]
  unfold leftOK subG
  constructor
  · intro h y x h1 h2 h3 h4
    have := h.2 y x h1 h2 h3 h4
    rw [mkG_cell _ h1 h2 h3 h4] at this
    exact this
  · intro h
    refine ⟨mkG_shp (by omega) _, fun y x h1 h2 h3 h4 => ?_⟩
    rw [mkG_cell _ h1 h2 h3 h4]
    exact h y x h1 h2 h3 h4

theorem left_img {g bm : Grid} {n : Int} {p : Comp} (n1 : 1 ≤ n) (n8 : n ≤ 8) : imgP (subG g bm n p) 1000000000 ↔ leftOK g bm n p := by
  have hs : ((subG g bm n p).length : Int) = n := (mkG_shp (by omega) (subC g bm n p)).1
  unfold imgP
  rw [hs, left_square n1]
  exact ⟨fun h => h.2.2, fun h => ⟨n1, n8, h⟩⟩

theorem square_more {g : Grid} {n a b : Int} (h : squareP g n a) (hab : a ≤ b) : squareP g n b := by
  rw [squareP_iff] at h ⊢
  exact ⟨h.1, fun y x h1 h2 h3 h4 => by have := h.2 y x h1 h2 h3 h4; unfold within at *; omega⟩

variable {call : FuncId → List Value → AHeap → (Value → AHeap → Prop) → Prop}
  {head : FuncId → Nat → Nat → SS → (Exit → SS → Prop) → Prop}
  {arith : BinOp → IntKind → Int → Int → Int}
  {cmp : BinOp → Int → Int → Bool}
  {scmp : BinOp → ByteArray → ByteArray → Bool}
  {bnot : Bool → Bool}
  {bsame : Bool → Bool → Bool}
  {conv : IntKind → Int → Int}
  {neg : IntKind → Int → Int}
  {imax : Int → Int → Int}
  {imin : Int → Int → Int}
  {ofNat : Nat → Int}
  {slen : ByteArray → Int}
  {place : Nat → Int → Nat → Nat}
  {inR : Int → Nat → Prop}
  {nz : Int → Prop}
  {geZ : Int → Prop}
  {rd : AHeap → Nat → Nat → Nat → List Value → Prop}
  {wr : AHeap → Nat → Nat → List Value → AHeap → Prop}
  {push : AHeap → Nat → List Value → AHeap}
  {next : AHeap → Nat}
  {mkOK : Int → Int → Prop}
  {nat : Int → Nat}
  {zeros : List Value → Int → List Value}
  {sadd : ByteArray → ByteArray → (ByteArray → Prop) → Prop}
  {eqAgg : TypeId → Array Value → Array Value → (Bool → Prop) → Prop}
  {cut : Nat → Int → Prop}
  {slc : TypeId → Value → Option Value → Option Value → Option Value → (Option Addr → Nat → Nat → Prop) → Prop}
  {sslc : TypeId → ByteArray → Option Value → Option Value → (ByteArray → Prop) → Prop}
  {strAt : ByteArray → Int → (Int → Prop) → Prop}
  {part : TypeId → Array Value → Nat → Value → Prop}
  {app : List TypeId → List Value → AHeap → (Option Addr → Nat → Nat → AHeap → Prop) → Prop}
  {cpy : List TypeId → List Value → AHeap → (Int → AHeap → Prop) → Prop}
  {putAt : AHeap → Nat → Nat → List Value → AHeap}
  {fresh : AHeap → AHeap}
  {lowered : AHeap → AHeap → AHeap}
  {bump : AHeap → Nat → AHeap}
  {wrote : AHeap → AHeap → Bool}
  {addN : Nat → Nat → Nat}
  {lt : Nat → Nat → Prop}
  {ne : Nat → Nat → Prop}
  {fpAll : Bool → Bool → Bool → Nat → Nat → Prop}
  {brk : (Unit → Prop) → Prop}
  {yn : Nat → Nat}
  {rng : FuncId → Nat → SS → (Exit → SS → Prop) → Prop}
  {mget : TypeId → Value → Value → AHeap → Value → Bool → Prop}
  {mput : TypeId → Value → Value → Value → AHeap → AHeap → Prop}
  {mnew : AHeap → AHeap}
  {bytes : TypeId → TypeId → Option Addr → Nat → AHeap → ByteArray → Prop}
  {clr : List TypeId → List Value → AHeap → AHeap → Prop}
  (hA : AOK progU hint prims ⟨call, head, arith, cmp, scmp, bnot, bsame, conv, neg, imax, imin, ofNat, slen, place, inR, nz, geZ, rd, wr, push, next, mkOK, nat, zeros, sadd, eqAgg, cut, slc, sslc, strAt, part, app, cpy, putAt, fresh, lowered, bump, wrote, addN, lt, ne, fpAll, brk, yn, rng, mget, mput, mnew, bytes, clr⟩)
include hA

theorem rrep_loop {h0 : AHeap} (hlow0 : h0.low ≤ h0.next) {ab : Option Addr} {mb cb : Nat} {bm : Grid} (hb : Img h0 ab mb bm) {al : Option Addr} {ml cl : Nat} {l : List Comp} (hl : Log h0 al ml l) (hml : (ml : Int) ≤ 1000) {a : Option Addr} {m c : Nat} {bs : List (Nat × Nat)} {n : Int} (hmn : (m : Int) = n) (n1 : 1 ≤ n) (n8 : n ≤ 8) (hbm : beamP bm n) (hlog : logP n l) {lo : Nat} (hlo : h0.next ≤ lo) {g0 : Grid} {Q : Exit → SS → Prop}
    (h1 : ∀ g h', Ext h0 h' → OImg h' lo a m bs g → Folds bm n g0 l (some g) → Q (.exit 0) ⟨[(8, .slice a m c)], 0, [], h'⟩)
    (h2 : ∀ e kn K h', Ext h0 h' → Folds bm n g0 l none → Q .ret ⟨(7, .int .i64 16) :: (6, .slice none 0 0) :: e, kn, K, h'⟩) :
    ∀ i : Int, 0 ≤ i → i ≤ ml → ∀ h g, Ext h0 h → OImg h lo a m bs g → squareP g n 1000000000 → (∀ r, Folds bm n g (l.drop i.toNat) r → Folds bm n g0 l r) → head 21 7 0 ⟨[(1, .slice ab mb cb), (2, .slice al ml cl), (8, .slice a m c), (9, .int .i64 i)], 0, [], h⟩ Q := by
  have hll := hl.len
  refine countUp (fun i hi0 hin ih h g e ho hs hf => ?_)
  refine hA.roundR Try.func21 r21_ok ?_; (try (conv => cbv)); repeat (refine brk_ok hA ?_; (try (conv => cbv)))
  refine br (i < ml) (by rw [e_lss hA, e_ofNat hA]) (fun c1 => ?_) (fun c1 => ?_) <;> (try (conv => cbv)) <;> repeat (refine brk_ok hA ?_; (try (conv => cbv)))
  · obtain ⟨b, o, x, y, f, rfl, hbn, hca, hrd, _, _, _⟩ := (hl.ext e).at hi0 c1
    refine ⟨b, o, rfl, in_ok hA hi0 c1, ?_⟩
    ((try (conv => cbv)); repeat (refine brk_ok hA ?_; (try (conv => cbv))))
    refine ⟨x, y, f, rd_ok hA hrd, ?_⟩
    ((try (conv => cbv)); repeat (refine brk_ok hA ?_; (try (conv => cbv))))
    have hp : compP n ⟨x, y, f⟩ := by rw [← hca]; exact hlog.2 i hi0 (by omega)
    have hk := subOK_of n1 n8 hs hbm hp
    refine rsub_ok hA hlow0 e hb hlo hmn hk ho (fun h' e' ho' => ?_)
    ((try (conv => cbv)); repeat (refine brk_ok hA ?_; (try (conv => cbv))))
    refine rimg_ok hA (e'.lowOK hlow0) ho'.img (by omega) (by omega) (fun r hr => ⟨_, rfl, ?_⟩)
    rw [left_img n1 n8] at hr
    have hd := drop_ca hi0 (show i < l.length by omega)
    rw [hca] at hd
    ((try (conv => cbv)); repeat (refine brk_ok hA ?_; (try (conv => cbv))))
    cases r with
    | false =>
      ((try (conv => cbv)); repeat (refine brk_ok hA ?_; (try (conv => cbv))))
      refine br (True) (by rw [e_bnot hA]; rfl) (fun _ => ?_) (fun q => absurd trivial q) <;> (try (conv => cbv)) <;> repeat (refine brk_ok hA ?_; (try (conv => cbv)))
      exact h2 _ _ _ h' e' (hf _ (by rw [hd]; exact .stop (fun q => by have := hr.2 q; cases this)))
    | true =>
      ((try (conv => cbv)); repeat (refine brk_ok hA ?_; (try (conv => cbv))))
      refine br (False) (by rw [e_bnot hA]; rfl) (fun q => q.elim) (fun _ => ?_) <;> (try (conv => cbv)) <;> repeat (refine brk_ok hA ?_; (try (conv => cbv)))
      rw [add64 hA (by omega) (by omega)]
      exact ih c1 h' _ e' ho' ((left_square n1).2 (hr.1 rfl)) (fun r' hr' => hf r' (by rw [hd]; exact .go (hr.1 rfl) hr'))
  · refine h1 g h e ho (hf _ ?_)
    rw [List.drop_eq_nil_of_le (by omega)]
    exact .nil g

theorem rrep_ok {h : AHeap} (hlow : h.low ≤ h.next) {a : Option Addr} {m c : Nat} {img : Grid} (hg : Img h a m img) {ab : Option Addr} {mb cb : Nat} {bm : Grid} (hb : Img h ab mb bm) {al : Option Addr} {ml cl : Nat} {l : List Comp} (hl : Log h al ml l) (hml : (ml : Int) ≤ 1000) {Q : Value → AHeap → Prop}
    (hbad : ∀ e h', Ext h h' → RepIs img bm l e none → Q (.tuple #[.slice none 0 0, .int .i64 e]) h')
    (hok : ∀ g' a' c' bs h', Ext h h' → OImg h' h.next a' m bs g' → RepIs img bm l 0 (some g') → Q (.tuple #[.slice a' m c', .int .i64 0]) h') : call 21 [.slice a m c, .slice ab mb cb, .slice al ml cl] h Q := by
  have hgl := hg.len
  refine hA.bodyR Try.func21 r21_ok (show prims _ _ _ = none from rfl) hlow ?_; (try (conv => cbv)); repeat (refine brk_ok hA ?_; (try (conv => cbv)))
  refine rimg_ok hA hlow hg (by omega) (by omega) (fun r hr => ⟨_, rfl, ?_⟩)
  ((try (conv => cbv)); repeat (refine brk_ok hA ?_; (try (conv => cbv))))
  cases r with
  | false =>
    ((try (conv => cbv)); repeat (refine brk_ok hA ?_; (try (conv => cbv))))
    refine br (True) (by rw [e_bnot hA]; rfl) (fun _ => ?_) (fun q => absurd trivial q) <;> (try (conv => cbv)) <;> repeat (refine brk_ok hA ?_; (try (conv => cbv)))
    exact hbad _ h (.refl _) (.inl ⟨(fun q => by have := hr.2 q; cases this), rfl, rfl⟩)
  | true =>
    have hi := hr.1 rfl
    have hi1 := hi.1
    have hi2 := hi.2.1
    have hmo : ofNat m = (img.length : Int) := by rw [e_ofNat hA]; omega
    ((try (conv => cbv)); repeat (refine brk_ok hA ?_; (try (conv => cbv))))
    refine br (False) (by rw [e_bnot hA]; rfl) (fun q => q.elim) (fun _ => ?_) <;> (try (conv => cbv)) <;> repeat (refine brk_ok hA ?_; (try (conv => cbv)))
    rw [hmo]
    obtain ⟨n, hn⟩ : ∃ n : Int, n = img.length := ⟨_, rfl⟩
    rw [← hn]
    rw [← hn] at hi1 hi2
    refine rbeam_ok hA hlow hb (n := n) (by omega) (by omega) (fun r2 hr2 => ⟨_, rfl, ?_⟩)
    ((try (conv => cbv)); repeat (refine brk_ok hA ?_; (try (conv => cbv))))
    have hbf : bnot false = true := by rw [e_bnot hA]; rfl
    have hbt : bnot true = false := by rw [e_bnot hA]; rfl
    cases r2 with
    | false =>
      rw [hbf]
      ((try (conv => cbv)); repeat (refine brk_ok hA ?_; (try (conv => cbv))))
      exact hbad _ h (.refl _) (.inr (.inl ⟨hi, (fun q => by rw [← hn] at q; have := hr2.2 q.1; cases this), rfl, rfl⟩))
    | true =>
      rw [hbt]
      ((try (conv => cbv)); repeat (refine brk_ok hA ?_; (try (conv => cbv))))
      rw [hmo, ← hn]
      refine rlog_ok hA hlow hl hml (n := n) (fun r3 hr3 => ⟨_, rfl, ?_⟩)
      ((try (conv => cbv)); repeat (refine brk_ok hA ?_; (try (conv => cbv))))
      cases r3 with
      | false =>
        rw [hbf]
        ((try (conv => cbv)); repeat (refine brk_ok hA ?_; (try (conv => cbv))))
        exact hbad _ h (.refl _) (.inr (.inl ⟨hi, (fun q => by rw [← hn] at q; have := hr3.2 q.2; cases this), rfl, rfl⟩))
      | true =>
        rw [hbt]
        ((try (conv => cbv)); repeat (refine brk_ok hA ?_; (try (conv => cbv))))
        have hb1 := hr2.1 rfl
        have hl1 := hr3.1 rfl
        have hsq := hi.2.2
        rw [← hn] at hsq
        refine twin_ok hA hlow hg (by omega) (fun y h1 h2 => by have := (hsq.2 y h1 (by omega)).1; omega) (fun a' c' bs h1 e1 ho1 => ⟨_, _, _, rfl, ?_⟩)
        ((try (conv => cbv)); repeat (refine brk_ok hA ?_; (try (conv => cbv))))
        have hmn : (m : Int) = n := by omega
        refine rrep_loop hA hlow hb hl hml hmn (by omega) (by omega) hb1 hl1 (Nat.le_refl _) (g0 := img) (fun g h' e' ho' hf => ?_) (fun e kn K h' e' hf => ?_) 0 (by omega) (by omega) h1 img e1 ho1 (square_more hsq (by omega)) (fun r hr => by simpa using hr)
        · ((try (conv => cbv)); repeat (refine brk_ok hA ?_; (try (conv => cbv))))
          exact hok g _ _ _ h' e' ho' (.inr (.inr ⟨hi, by rw [← hn]; exact hb1, by rw [← hn]; exact hl1, _, by rw [← hn]; exact hf, .inr ⟨g, rfl, rfl, rfl⟩⟩))
        · ((try (conv => cbv)); repeat (refine brk_ok hA ?_; (try (conv => cbv))))
          exact hbad _ h' e' (.inr (.inr ⟨hi, by rw [← hn]; exact hb1, by rw [← hn]; exact hl1, _, by rw [← hn]; exact hf, .inl ⟨rfl, rfl, rfl⟩⟩))

theorem rep_loop {h0 : AHeap} (hlow0 : h0.low ≤ h0.next) {ab : Option Addr} {mb cb : Nat} {bm : Grid} (hb : Img h0 ab mb bm) {al : Option Addr} {ml cl : Nat} {l : List Comp} (hl : Log h0 al ml l) (hml : (ml : Int) ≤ 1000) {a : Option Addr} {m c : Nat} {bs : List (Nat × Nat)} {n : Int} (hmn : (m : Int) = n) (n1 : 1 ≤ n) (n8 : n ≤ 8) (hbm : beamP bm n) (hlog : logP n l) {lo : Nat} (hlo : h0.next ≤ lo) {g0 : Grid} {Q : Exit → SS → Prop}
    (h1 : ∀ g h', Ext h0 h' → OImg h' lo a m bs g → Folds bm n g0 l (some g) → Q (.exit 0) ⟨[(8, .slice a m c)], 0, [], h'⟩)
    (h2 : ∀ e kn K h', Ext h0 h' → Folds bm n g0 l none → Q .ret ⟨(7, .int .i64 16) :: (6, .slice none 0 0) :: e, kn, K, h'⟩) :
    ∀ i : Int, 0 ≤ i → i ≤ ml → ∀ h g, Ext h0 h → OImg h lo a m bs g → squareP g n 1000000000 → (∀ r, Folds bm n g (l.drop i.toNat) r → Folds bm n g0 l r) → head 20 7 0 ⟨[(1, .slice ab mb cb), (8, .slice a m c), (28, .slice al ml cl), (29, .int .i64 (ofNat ml)), (30, .int .i64 i)], 0, [], h⟩ Q := by
  have hll := hl.len
  refine countUp (fun i hi0 hin ih h g e ho hs hf => ?_)
  refine hA.roundR Try.func20 r20_ok ?_; (try (conv => cbv)); repeat (refine brk_ok hA ?_; (try (conv => cbv)))
  refine br (i < ml) (by rw [e_lss hA, e_ofNat hA]) (fun c1 => ?_) (fun c1 => ?_) <;> (try (conv => cbv)) <;> repeat (refine brk_ok hA ?_; (try (conv => cbv)))
  · obtain ⟨b, o, x, y, f, rfl, hbn, hca, hrd, _, _, _⟩ := (hl.ext e).at hi0 c1
    refine ⟨b, o, rfl, in_ok hA hi0 c1, ?_⟩
    ((try (conv => cbv)); repeat (refine brk_ok hA ?_; (try (conv => cbv))))
    refine ⟨x, y, f, rd_ok hA hrd, ?_⟩
    ((try (conv => cbv)); repeat (refine brk_ok hA ?_; (try (conv => cbv))))
    have hp : compP n ⟨x, y, f⟩ := by rw [← hca]; exact hlog.2 i hi0 (by omega)
    have hk := subOK_of n1 n8 hs hbm hp
    have hd := drop_ca hi0 (show i < l.length by omega)
    rw [hca] at hd
    refine psub_ok hA hlow0 e hb hlo hmn hk ho (fun h' e' ho' hle => ⟨_, rfl, ?_⟩) (fun h' e' hle => ⟨_, rfl, ?_⟩)
    · ((try (conv => cbv)); repeat (refine brk_ok hA ?_; (try (conv => cbv))))
      refine br (False) (by rw [e_bnot hA]; rfl) (fun q => q.elim) (fun _ => ?_) <;> (try (conv => cbv)) <;> repeat (refine brk_ok hA ?_; (try (conv => cbv)))
      rw [add64 hA (by omega) (by omega)]
      exact ih c1 h' _ e' ho' ((left_square n1).2 hle) (fun r' hr' => hf r' (by rw [hd]; exact .go hle hr'))
    · ((try (conv => cbv)); repeat (refine brk_ok hA ?_; (try (conv => cbv))))
      refine br (True) (by rw [e_bnot hA]; rfl) (fun _ => ?_) (fun q => absurd trivial q) <;> (try (conv => cbv)) <;> repeat (refine brk_ok hA ?_; (try (conv => cbv)))
      exact h2 _ _ _ h' e' (hf _ (by rw [hd]; exact .stop hle))
  · refine h1 g h e ho (hf _ ?_)
    rw [List.drop_eq_nil_of_le (by omega)]
    exact .nil g

theorem rep_ok {h : AHeap} (hlow : h.low ≤ h.next) {a : Option Addr} {m c : Nat} {img : Grid} (hg : Img h a m img) {ab : Option Addr} {mb cb : Nat} {bm : Grid} (hb : Img h ab mb bm) {al : Option Addr} {ml cl : Nat} {l : List Comp} (hl : Log h al ml l) (hml : (ml : Int) ≤ 1000) {Q : Value → AHeap → Prop}
    (hbad : ∀ e h', Ext h h' → RepIs img bm l e none → Q (.tuple #[.slice none 0 0, .int .i64 e]) h')
    (hok : ∀ g' a' c' bs h', Ext h h' → OImg h' h.next a' m bs g' → RepIs img bm l 0 (some g') → Q (.tuple #[.slice a' m c', .int .i64 0]) h') : call 20 [.slice a m c, .slice ab mb cb, .slice al ml cl] h Q := by
  have hgl := hg.len
  refine hA.bodyR Try.func20 r20_ok (show prims _ _ _ = none from rfl) hlow ?_; (try (conv => cbv)); repeat (refine brk_ok hA ?_; (try (conv => cbv)))
  refine isImage_ok hA hlow hg (by omega) (by omega) (fun r hr => ⟨_, rfl, ?_⟩)
  ((try (conv => cbv)); repeat (refine brk_ok hA ?_; (try (conv => cbv))))
  cases r with
  | false =>
    ((try (conv => cbv)); repeat (refine brk_ok hA ?_; (try (conv => cbv))))
    refine br (True) (by rw [e_bnot hA]; rfl) (fun _ => ?_) (fun q => absurd trivial q) <;> (try (conv => cbv)) <;> repeat (refine brk_ok hA ?_; (try (conv => cbv)))
    exact hbad _ h (.refl _) (.inl ⟨(fun q => by have := hr.2 q; cases this), rfl, rfl⟩)
  | true =>
    have hi := hr.1 rfl
    have hi1 := hi.1
    have hi2 := hi.2.1
    have hmo : ofNat m = (img.length : Int) := by rw [e_ofNat hA]; omega
    ((try (conv => cbv)); repeat (refine brk_ok hA ?_; (try (conv => cbv))))
    refine br (False) (by rw [e_bnot hA]; rfl) (fun q => q.elim) (fun _ => ?_) <;> (try (conv => cbv)) <;> repeat (refine brk_ok hA ?_; (try (conv => cbv)))
    rw [hmo]
    obtain ⟨n, hn⟩ : ∃ n : Int, n = img.length := ⟨_, rfl⟩
    rw [← hn]
    rw [← hn] at hi1 hi2
    refine isBeam_ok hA hlow hb (n := n) (by omega) (by omega) (fun r2 hr2 => ⟨_, rfl, ?_⟩)
    ((try (conv => cbv)); repeat (refine brk_ok hA ?_; (try (conv => cbv))))
    have hbf : bnot false = true := by rw [e_bnot hA]; rfl
    have hbt : bnot true = false := by rw [e_bnot hA]; rfl
    cases r2 with
    | false =>
      rw [hbf]
      ((try (conv => cbv)); repeat (refine brk_ok hA ?_; (try (conv => cbv))))
      exact hbad _ h (.refl _) (.inr (.inl ⟨hi, (fun q => by rw [← hn] at q; have := hr2.2 q.1; cases this), rfl, rfl⟩))
    | true =>
      rw [hbt]
      ((try (conv => cbv)); repeat (refine brk_ok hA ?_; (try (conv => cbv))))
      rw [hmo, ← hn]
      refine isLog_ok hA hlow hl (n := n) (fun r3 hr3 => ⟨_, rfl, ?_⟩)
      ((try (conv => cbv)); repeat (refine brk_ok hA ?_; (try (conv => cbv))))
      cases r3 with
      | false =>
        rw [hbf]
        ((try (conv => cbv)); repeat (refine brk_ok hA ?_; (try (conv => cbv))))
        exact hbad _ h (.refl _) (.inr (.inl ⟨hi, (fun q => by rw [← hn] at q; have := hr3.2 q.2; cases this), rfl, rfl⟩))
      | true =>
        rw [hbt]
        ((try (conv => cbv)); repeat (refine brk_ok hA ?_; (try (conv => cbv))))
        have hb1 := hr2.1 rfl
        have hl1 := hr3.1 rfl
        have hsq := hi.2.2
        rw [← hn] at hsq
        refine copied_ok hA hlow hg (by rw [hgl, ← hn] at *; exact squareP_shp hsq) (by omega) (by omega) (fun a' c' bs h1 e1 ho1 => ⟨_, _, _, rfl, ?_⟩)
        ((try (conv => cbv)); repeat (refine brk_ok hA ?_; (try (conv => cbv))))
        have hmn : (m : Int) = n := by omega
        refine rep_loop hA hlow hb hl hml hmn (by omega) (by omega) hb1 hl1 (Nat.le_refl _) (g0 := img) (fun g h' e' ho' hf => ?_) (fun e kn K h' e' hf => ?_) 0 (by omega) (by omega) h1 img e1 ho1 (square_more hsq (by omega)) (fun r hr => by simpa using hr)
        · ((try (conv => cbv)); repeat (refine brk_ok hA ?_; (try (conv => cbv))))
          exact hok g _ _ _ h' e' ho' (.inr (.inr ⟨hi, by rw [← hn]; exact hb1, by rw [← hn]; exact hl1, _, by rw [← hn]; exact hf, .inr ⟨g, rfl, rfl, rfl⟩⟩))
        · ((try (conv => cbv)); repeat (refine brk_ok hA ?_; (try (conv => cbv))))
          exact hbad _ h' e' (.inr (.inr ⟨hi, by rw [← hn]; exact hb1, by rw [← hn]; exact hl1, _, by rw [← hn]; exact hf, .inl ⟨rfl, rfl, rfl⟩⟩))

end Go.Proofs.Ytogofeppflindaa
