/-
  What Replay, Model and Spread answer, in memory; Great.
-/
import Derived.Test.YtogofeppflindaaCSpread2
namespace Go.Proofs.Ytogofeppflindaa
open Go.Sim
set_option linter.unusedVariables false
set_option maxRecDepth 100000

/-- No side is longer than eight. -/
def small (g : Grid) : Prop := (g.length : Int) ≤ 8 ∧ ∀ y : Int, 0 ≤ y → y < g.length → ((rowAt g y).length : Int) ≤ 8

theorem small_nil : small [] := ⟨by simp, fun y h1 h2 => by simp at h2; omega⟩
theorem shp_small {g : Grid} {n : Int} (h : shp g n) (h8 : n ≤ 8) : small g := ⟨by have := h.1; omega, fun y h1 h2 => by have := h.2 y h1 (by have := h.1; omega); omega⟩

theorem Cells.nil0 (h : AHeap) : Cells h none 0 1 ([] : List Value) := by
  unfold Cells
  simp

theorem Img.nil (h : AHeap) : Img h none 0 [] := ⟨[], Cells.nil0 h, rfl, fun i x r hx _ => by simp at hx⟩

theorem Folds.shp {bm : Grid} {n : Int} {g : Grid} {l : List Comp} {r : Option Grid} (h : Folds bm n g l r) (hn : 0 ≤ n) : ∀ g', r = some g' → shp g n → Go.Proofs.Ytogofeppflindaa.shp g' n := by
  induction h with
  | nil g => intro g' hg hs; cases hg; exact hs
  | go k t ih => intro g' hg hs; exact ih g' hg (mkG_shp hn _)
  | stop k => intro g' hg; cases hg

theorem RepIs.small {img bm : Grid} {l : List Comp} {e : Int} {g : Grid} (h : RepIs img bm l e (some g)) : small g := by
  rcases h with ⟨_, _, q⟩ | ⟨_, _, _, q⟩ | ⟨hi, hb, hl, o, f, d⟩
  · cases q
  · cases q
  · rcases d with ⟨_, _, q⟩ | ⟨g', rfl, _, q⟩
    · cases q
    · cases q
      exact shp_small (f.shp (by have := hi.1; omega) g rfl (squareP_shp hi.2.2)) hi.2.1
theorem ModIs.small {n : Int} {l : List Comp} {e : Int} {g : Grid} (h : ModIs n l e (some g)) : small g := by
  rcases h with ⟨_, _, q⟩ | ⟨_, _, _, _, q⟩ | ⟨_, _, _, _, _, q⟩ | ⟨a, b, _, _, _, q⟩
  · cases q
  · cases q
  · cases q
  · cases q; exact shp_small (mkG_shp (by omega) _) b
theorem SprIs.small {img bm : Grid} {e : Int} {g : Grid} (h : SprIs img bm e (some g)) : small g := by
  rcases h with ⟨_, _, q⟩ | ⟨_, _, _, q⟩ | ⟨_, _, _, _, q⟩ | ⟨a, b, _, _, q⟩
  · cases q
  · cases q
  · cases q
  · cases q; exact shp_small (mkG_shp (by have := a.1; omega) _) a.2.1

/-- An answer: an image and a number. -/
def Ans (Is : Int → Option Grid → Prop) (h : AHeap) (a : Option Addr) (m : Nat) (e : Int) : Prop := ∃ r : Option Grid, Is e r ∧ Img h a m (r.getD []) ∧ small (r.getD [])

theorem Ans.ext {Is : Int → Option Grid → Prop} {h h' : AHeap} {a : Option Addr} {m : Nat} {e : Int} (p : Ans Is h a m e) (x : Ext h h') : Ans Is h' a m e := by
  obtain ⟨r, h1, h2, h3⟩ := p
  exact ⟨r, h1, h2.ext x, h3⟩

theorem Ans.num {Is : Int → Option Grid → Prop} (hu : ∀ e e' r r', Is e r → Is e' r' → e = e' ∧ r = r') {h h' : AHeap} {a a' : Option Addr} {m m' : Nat} {e e' : Int} (p : Ans Is h a m e) (p' : Ans Is h' a' m' e') : e = e' := by
  obtain ⟨r, h1, _⟩ := p
  obtain ⟨r', h1', _⟩ := p'
  exact (hu _ _ _ _ h1 h1').1

variable {call : FuncId → List Value → AHeap → (Value → AHeap → Prop) → Prop}
  {head : FuncId → Nat → Nat → SS → (Exit → SS → Prop) → Prop}
  {arith : BinOp → IntKind → Int → Int → Int}
  {cmp : BinOp → Int → Int → Bool}
  {scmp : BinOp → ByteArray → ByteArray → Bool}
  {bnot : Bool → Bool}
  {bsame : Bool → Bool → Bool}
  {conv : IntKind → Int → Int}
  {neg : IntKind → Int → Int}
  {imax : Int → Int → Int}
  {imin : Int → Int → Int}
  {ofNat : Nat → Int}
  {slen : ByteArray → Int}
  {place : Nat → Int → Nat → Nat}
  {inR : Int → Nat → Prop}
  {nz : Int → Prop}
  {geZ : Int → Prop}
  {rd : AHeap → Nat → Nat → Nat → List Value → Prop}
  {wr : AHeap → Nat → Nat → List Value → AHeap → Prop}
  {push : AHeap → Nat → List Value → AHeap}
  {next : AHeap → Nat}
  {mkOK : Int → Int → Prop}
  {nat : Int → Nat}
  {zeros : List Value → Int → List Value}
  {sadd : ByteArray → ByteArray → (ByteArray → Prop) → Prop}
  {eqAgg : TypeId → Array Value → Array Value → (Bool → Prop) → Prop}
  {cut : Nat → Int → Prop}
  {slc : TypeId → Value → Option Value → Option Value → Option Value → (Option Addr → Nat → Nat → Prop) → Prop}
  {sslc : TypeId → ByteArray → Option Value → Option Value → (ByteArray → Prop) → Prop}
  {strAt : ByteArray → Int → (Int → Prop) → Prop}
  {part : TypeId → Array Value → Nat → Value → Prop}
  {app : List TypeId → List Value → AHeap → (Option Addr → Nat → Nat → AHeap → Prop) → Prop}
  {cpy : List TypeId → List Value → AHeap → (Int → AHeap → Prop) → Prop}
  {putAt : AHeap → Nat → Nat → List Value → AHeap}
  {fresh : AHeap → AHeap}
  {lowered : AHeap → AHeap → AHeap}
  {bump : AHeap → Nat → AHeap}
  {wrote : AHeap → AHeap → Bool}
  {addN : Nat → Nat → Nat}
  {lt : Nat → Nat → Prop}
  {ne : Nat → Nat → Prop}
  {fpAll : Bool → Bool → Bool → Nat → Nat → Prop}
  {brk : (Unit → Prop) → Prop}
  {yn : Nat → Nat}
  {rng : FuncId → Nat → SS → (Exit → SS → Prop) → Prop}
  {mget : TypeId → Value → Value → AHeap → Value → Bool → Prop}
  {mput : TypeId → Value → Value → Value → AHeap → AHeap → Prop}
  {mnew : AHeap → AHeap}
  {bytes : TypeId → TypeId → Option Addr → Nat → AHeap → ByteArray → Prop}
  {clr : List TypeId → List Value → AHeap → AHeap → Prop}
  (hA : AOK progU hint prims ⟨call, head, arith, cmp, scmp, bnot, bsame, conv, neg, imax, imin, ofNat, slen, place, inR, nz, geZ, rd, wr, push, next, mkOK, nat, zeros, sadd, eqAgg, cut, slc, sslc, strAt, part, app, cpy, putAt, fresh, lowered, bump, wrote, addN, lt, ne, fpAll, brk, yn, rng, mget, mput, mnew, bytes, clr⟩)
include hA

theorem same_ans {Is : Int → Option Grid → Prop} (hu : ∀ e e' r r', Is e r → Is e' r' → e = e' ∧ r = r') {h : AHeap} (hlow : h.low ≤ h.next) {a a' : Option Addr} {m m' c c' : Nat} {e e' : Int} (p : Ans Is h a m e) (p' : Ans Is h a' m' e') {Q : Value → AHeap → Prop} (hQ : ∀ h', Ext h h' → Q (.bool true) h') : call 18 [.slice a m c, .slice a' m' c'] h Q := by
  obtain ⟨r, h1, h2, h3⟩ := p
  obtain ⟨r', h1', h2', h3'⟩ := p'
  obtain ⟨_, rfl⟩ := hu _ _ _ _ h1 h1'
  have hl := h2.len
  have := h3.1
  refine same_ok hA hlow h2 h2' (by omega) (fun y q1 q2 => by have := h3.2 y q1 (by omega); omega) (fun b h' x hb => ?_)
  have : b = true := hb.2 rfl
  subst this
  exact hQ h' x

theorem rep_is {h : AHeap} (hlow : h.low ≤ h.next) {a : Option Addr} {m c : Nat} {img : Grid} (hg : Img h a m img) {ab : Option Addr} {mb cb : Nat} {bm : Grid} (hb : Img h ab mb bm) {al : Option Addr} {ml cl : Nat} {l : List Comp} (hl : Log h al ml l) (hml : (ml : Int) ≤ 1000) {F : FuncId} (hF : F = 20 ∨ F = 21) {Q : Value → AHeap → Prop}
    (hQ : ∀ a' m' c' e h', Ext h h' → Ans (RepIs img bm l) h' a' m' e → Q (.tuple #[.slice a' m' c', .int .i64 e]) h') : call F [.slice a m c, .slice ab mb cb, .slice al ml cl] h Q := by
  rcases hF with rfl | rfl
  · exact rep_ok hA hlow hg hb hl hml (fun e h' x hr => hQ _ _ _ _ h' x ⟨none, hr, Img.nil h', small_nil⟩) (fun g' a' c' bs h' x ho hr => hQ _ _ _ _ h' x ⟨some g', hr, ho.img, hr.small⟩)
  · exact rrep_ok hA hlow hg hb hl hml (fun e h' x hr => hQ _ _ _ _ h' x ⟨none, hr, Img.nil h', small_nil⟩) (fun g' a' c' bs h' x ho hr => hQ _ _ _ _ h' x ⟨some g', hr, ho.img, hr.small⟩)
theorem mod_is {h : AHeap} (hlow : h.low ≤ h.next) {n : Int} {al : Option Addr} {ml cl : Nat} {l : List Comp} (hl : Log h al ml l) (hml : (ml : Int) ≤ 1000) {F : FuncId} (hF : F = 22 ∨ F = 23) {Q : Value → AHeap → Prop}
    (hQ : ∀ a' m' c' e h', Ext h h' → Ans (ModIs n l) h' a' m' e → Q (.tuple #[.slice a' m' c', .int .i64 e]) h') : call F [.int .i64 n, .slice al ml cl] h Q := by
  rcases hF with rfl | rfl
  · exact mod_ok hA hlow hl hml (fun e h' x hr => hQ _ _ _ _ h' x ⟨none, hr, Img.nil h', small_nil⟩) (fun g' a' m c' bs h' _ x ho hr => hQ _ _ _ _ h' x ⟨some g', hr, ho.img, hr.small⟩)
  · exact rmod_ok hA hlow hl hml (fun e h' x hr => hQ _ _ _ _ h' x ⟨none, hr, Img.nil h', small_nil⟩) (fun g' a' m c' bs h' _ x ho hr => hQ _ _ _ _ h' x ⟨some g', hr, ho.img, hr.small⟩)
theorem spr_is {h : AHeap} (hlow : h.low ≤ h.next) {a : Option Addr} {m c : Nat} {img : Grid} (hg : Img h a m img) {ab : Option Addr} {mb cb : Nat} {bm : Grid} (hb : Img h ab mb bm) {F : FuncId} (hF : F = 24 ∨ F = 25) {Q : Value → AHeap → Prop}
    (hQ : ∀ a' m' c' e h', Ext h h' → Ans (SprIs img bm) h' a' m' e → Q (.tuple #[.slice a' m' c', .int .i64 e]) h') : call F [.slice a m c, .slice ab mb cb] h Q := by
  rcases hF with rfl | rfl
  · exact spr_ok hA hlow hg hb (fun e h' x hr => hQ _ _ _ _ h' x ⟨none, hr, Img.nil h', small_nil⟩) (fun g' a' c' bs h' x ho hr => hQ _ _ _ _ h' x ⟨some g', hr, ho.img, hr.small⟩)
  · exact rspr_ok hA hlow hg hb (fun e h' x hr => hQ _ _ _ _ h' x ⟨none, hr, Img.nil h', small_nil⟩) (fun g' a' c' bs h' x ho hr => hQ _ _ _ _ h' x ⟨some g', hr, ho.img, hr.small⟩)

theorem great_loop2 {h : AHeap} {a : Option Addr} {m c : Nat} {g : Grid} (hg : Img h a m g) (hm : (m : Int) ≤ 9223372036854775807) {Q : Exit → SS → Prop}
    (h0 : (∀ y : Int, 0 ≤ y → y < m → ((rowAt g y).length : Int) ≤ 20) → Q (.exit 0) ⟨[(0, .slice a m c)], 0, [], h⟩) (h1 : ∀ e kn K, greatP g → Q .ret ⟨(2, .bool true) :: e, kn, K, h⟩) :
    ∀ i : Int, 0 ≤ i → i ≤ m → (∀ y : Int, 0 ≤ y → y < i → ((rowAt g y).length : Int) ≤ 20) → head 10 2 0 ⟨[(0, .slice a m c), (3, .int .i64 i)], 0, [], h⟩ Q := by
  have hl := hg.len
  refine countUp (fun i hi0 hin ih hall => ?_)
  refine hA.roundR Try.func10 r10_ok ?_; (try (conv => cbv)); repeat (refine brk_ok hA ?_; (try (conv => cbv)))
  refine br (i < m) (by rw [e_lss hA, e_ofNat hA]) (fun c1 => ?_) (fun c1 => ?_) <;> (try (conv => cbv)) <;> repeat (refine brk_ok hA ?_; (try (conv => cbv)))
  · obtain ⟨b, o, ra, rn, rc, rfl, hb, hrd, hrow, hrl⟩ := hg.row hi0 c1
    refine ⟨b, o, rfl, in_ok hA hi0 c1, ?_⟩
    ((try (conv => cbv)); repeat (refine brk_ok hA ?_; (try (conv => cbv))))
    refine ⟨ra, rn, rc, rd_ok hA hrd, ?_⟩
    ((try (conv => cbv)); repeat (refine brk_ok hA ?_; (try (conv => cbv))))
    refine br (20 < (rn : Int)) (by rw [e_gtr hA, e_ofNat hA]) (fun c2 => ?_) (fun c2 => ?_) <;> (try (conv => cbv)) <;> repeat (refine brk_ok hA ?_; (try (conv => cbv)))
    · exact h1 _ _ _ (.inr ⟨i, hi0, by omega, by omega⟩)
    · rw [add64 hA (by omega) (by omega)]
      refine ih c1 (fun y h2 h3 => ?_)
      by_cases e : y = i
      · rw [e]; omega
      · exact hall y h2 (by omega)
  · exact h0 (fun y h2 h3 => hall y h2 (by omega))

theorem great_ok2 {h : AHeap} (hlow : h.low ≤ h.next) {a : Option Addr} {m c : Nat} {g : Grid} (hg : Img h a m g) (hm : (m : Int) ≤ 9223372036854775807) {Q : Value → AHeap → Prop}
    (hQ : ∀ r : Bool, (r = true ↔ greatP g) → Q (.bool r) h) : call 10 [.slice a m c] h Q := by
  have hl := hg.len
  refine hA.bodyR Try.func10 r10_ok (show prims _ _ _ = none from rfl) hlow ?_; (try (conv => cbv)); repeat (refine brk_ok hA ?_; (try (conv => cbv)))
  refine great_loop2 hA hg hm ?_ ?_ 0 (by omega) (by omega) (fun y h2 h3 => by omega)
  · intro q
    ((try (conv => cbv)); repeat (refine brk_ok hA ?_; (try (conv => cbv))))
    refine hQ _ ?_
    rw [e_gtr hA, e_ofNat hA]
    unfold greatP
    simp only [decide_eq_true_eq]
    rw [hl]
    refine ⟨fun h => .inl h, fun h => ?_⟩
    rcases h with h | ⟨y, h2, h3, h4⟩
    · exact h
    · have := q y h2 h3; omega
  · intro e kn K q
    ((try (conv => cbv)); repeat (refine brk_ok hA ?_; (try (conv => cbv))))
    exact hQ _ (yes q)

end Go.Proofs.Ytogofeppflindaa
