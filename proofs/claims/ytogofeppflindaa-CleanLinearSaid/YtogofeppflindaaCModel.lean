/-
  Model, of the reference and of the program.
-/
import Derived.Test.YtogofeppflindaaCRep
namespace Go.Proofs.Ytogofeppflindaa
open Go.Sim
set_option linter.unusedVariables false
set_option maxRecDepth 100000

/-- One component more. -/
def addP (s : Int → Int → Int) (p : Comp) (y x : Int) : Int := if y = p.y ∧ x = p.x then s y x + p.f else s y x
/-- The sums of the first i components. -/
def sums (l : List Comp) : Nat → Int → Int → Int
  | 0 => fun _ _ => 0
  | i + 1 => addP (sums l i) (l.getD i ⟨0, 0, 0⟩)

theorem sums_succ (l : List Comp) {i : Int} (h0 : 0 ≤ i) : sums l (i + 1).toNat = addP (sums l i.toNat) (ca l i) := by
  rw [toNat_succ h0]; rfl

theorem sums_small {l : List Comp} {n : Int} (hl : logP n l) : ∀ i : Nat, (i : Int) ≤ l.length → ∀ y x : Int, -(1000000000 * (i : Int)) ≤ sums l i y x ∧ sums l i y x ≤ 1000000000 * (i : Int) := by
  intro i
  induction i with
  | zero => intro _ y x; exact ⟨by simp [sums], by simp [sums]⟩
  | succ i ih =>
    intro hi y x
    have h1 := ih (by omega) y x
    have h2 := (hl.2 (i : Int) (by omega) (by omega)).2.2.2.2
    unfold within at h2
    have h3 : ca l (i : Int) = l.getD i ⟨0, 0, 0⟩ := by unfold ca; rw [Int.toNat_natCast]
    rw [h3] at h2
    show -(1000000000 * ((i + 1 : Nat) : Int)) ≤ addP (sums l i) (l.getD i ⟨0, 0, 0⟩) y x ∧ addP (sums l i) (l.getD i ⟨0, 0, 0⟩) y x ≤ 1000000000 * ((i + 1 : Nat) : Int)
    unfold addP
    split <;> omega

theorem set_addP {n : Int} (hn : 0 ≤ n) (s : Int → Int → Int) {p : Comp} (x0 : 0 ≤ p.x) (x1 : p.x < n) (y0 : 0 ≤ p.y) (y1 : p.y < n) : setC (mkG n s) p.y p.x (s p.y p.x + p.f) = mkG n (addP s p) := by
  refine shp_ext (setC_shp (mkG_shp hn s) y0 y1) (mkG_shp hn _) (fun y x h1 h2 h3 h4 => ?_)
  rw [cell_setC (mkG_shp hn s) y0 y1 x0 x1 h1 h2 h3, mkG_cell _ h1 h2 h3 h4, mkG_cell _ h1 h2 h3 h4]
  unfold addP
  split
  · rename_i q; rw [q.1, q.2]
  · rfl

/-- Are all cells in range? -/
def sumsOK (n : Int) (l : List Comp) : Prop := ∀ y x : Int, 0 ≤ y → y < n → 0 ≤ x → x < n → within 1000000000 (sums l l.length y x)

/-- What Model answers. -/
def ModIs (n : Int) (l : List Comp) (e : Int) (r : Option Grid) : Prop :=
  (¬ (1 ≤ n ∧ n ≤ 8) ∧ e = 2 ∧ r = none) ∨ (1 ≤ n ∧ n ≤ 8 ∧ ¬ logP n l ∧ e = 8 ∧ r = none) ∨
    (1 ≤ n ∧ n ≤ 8 ∧ logP n l ∧ ¬ sumsOK n l ∧ e = 16 ∧ r = none) ∨ (1 ≤ n ∧ n ≤ 8 ∧ logP n l ∧ sumsOK n l ∧ e = 0 ∧ r = some (mkG n (sums l l.length)))

theorem ModIs.uniq {n : Int} {l : List Comp} {e e' : Int} {r r' : Option Grid} (h : ModIs n l e r) (h' : ModIs n l e' r') : e = e' ∧ r = r' := by
  unfold ModIs at h h'
  rcases h with ⟨a, rfl, rfl⟩ | ⟨a, b, c, rfl, rfl⟩ | ⟨a, b, c, d, rfl, rfl⟩ | ⟨a, b, c, d, rfl, rfl⟩ <;> rcases h' with ⟨a', rfl, rfl⟩ | ⟨a', b', c', rfl, rfl⟩ | ⟨a', b', c', d', rfl, rfl⟩ | ⟨a', b', c', d', rfl, rfl⟩ <;>
    first | exact ⟨rfl, rfl⟩ | exact absurd ⟨a, b⟩ a' | exact absurd ⟨a', b'⟩ a | exact absurd c c' | exact absurd c' c | exact absurd d d' | exact absurd d' d

theorem mk_img {n : Int} (n1 : 1 ≤ n) (n8 : n ≤ 8) (s : Int → Int → Int) : imgP (mkG n s) 1000000000 ↔ ∀ y x : Int, 0 ≤ y → y < n → 0 ≤ x → x < n → within 1000000000 (s y x) := by
  have hs := mkG_shp (show 0 ≤ n by omega) s
  unfold imgP
  rw [hs.1, squareP_iff]
  constructor
  · intro h y x h1 h2 h3 h4
    have := h.2.2.2 y x h1 h2 h3 h4
    rwa [mkG_cell s h1 h2 h3 h4] at this
  · intro h
    exact ⟨n1, n8, hs, fun y x h1 h2 h3 h4 => by rw [mkG_cell s h1 h2 h3 h4]; exact h y x h1 h2 h3 h4⟩

variable {call : FuncId → List Value → AHeap → (Value → AHeap → Prop) → Prop}
  {head : FuncId → Nat → Nat → SS → (Exit → SS → Prop) → Prop}
  {arith : BinOp → IntKind → Int → Int → Int}
  {cmp : BinOp → Int → Int → Bool}
  {scmp : BinOp → ByteArray → ByteArray → Bool}
  {bnot : Bool → Bool}
  {bsame : Bool → Bool → Bool}
  {conv : IntKind → Int → Int}
  {neg : IntKind → Int → Int}
  {imax : Int → Int → Int}
  {imin : Int → Int → Int}
  {ofNat : Nat → Int}
  {slen : ByteArray → Int}
  {place : Nat → Int → Nat → Nat}
  {inR : Int → Nat → Prop}
  {nz : Int → Prop}
  {geZ : Int → Prop}
  {rd : AHeap → Nat → Nat → Nat → List Value → Prop}
  {wr : AHeap → Nat → Nat → List Value → AHeap → Prop}
  {push : AHeap → Nat → List Value → AHeap}
  {next : AHeap → Nat}
  {mkOK : Int → Int → Prop}
  {nat : Int → Nat}
  {zeros : List Value → Int → List Value}
  {sadd : ByteArray → ByteArray → (ByteArray → Prop) → Prop}
  {eqAgg : TypeId → Array Value → Array Value → (Bool → Prop) → Prop}
  {cut : Nat → Int → Prop}
  {slc : TypeId → Value → Option Value → Option Value → Option Value → (Option Addr → Nat → Nat → Prop) → Prop}
  {sslc : TypeId → ByteArray → Option Value → Option Value → (ByteArray → Prop) → Prop}
  {strAt : ByteArray → Int → (Int → Prop) → Prop}
  {part : TypeId → Array Value → Nat → Value → Prop}
  {app : List TypeId → List Value → AHeap → (Option Addr → Nat → Nat → AHeap → Prop) → Prop}
  {cpy : List TypeId → List Value → AHeap → (Int → AHeap → Prop) → Prop}
  {putAt : AHeap → Nat → Nat → List Value → AHeap}
  {fresh : AHeap → AHeap}
  {lowered : AHeap → AHeap → AHeap}
  {bump : AHeap → Nat → AHeap}
  {wrote : AHeap → AHeap → Bool}
  {addN : Nat → Nat → Nat}
  {lt : Nat → Nat → Prop}
  {ne : Nat → Nat → Prop}
  {fpAll : Bool → Bool → Bool → Nat → Nat → Prop}
  {brk : (Unit → Prop) → Prop}
  {yn : Nat → Nat}
  {rng : FuncId → Nat → SS → (Exit → SS → Prop) → Prop}
  {mget : TypeId → Value → Value → AHeap → Value → Bool → Prop}
  {mput : TypeId → Value → Value → Value → AHeap → AHeap → Prop}
  {mnew : AHeap → AHeap}
  {bytes : TypeId → TypeId → Option Addr → Nat → AHeap → ByteArray → Prop}
  {clr : List TypeId → List Value → AHeap → AHeap → Prop}
  (hA : AOK progU hint prims ⟨call, head, arith, cmp, scmp, bnot, bsame, conv, neg, imax, imin, ofNat, slen, place, inR, nz, geZ, rd, wr, push, next, mkOK, nat, zeros, sadd, eqAgg, cut, slc, sslc, strAt, part, app, cpy, putAt, fresh, lowered, bump, wrote, addN, lt, ne, fpAll, brk, yn, rng, mget, mput, mnew, bytes, clr⟩)
include hA

theorem rmod_loop {h0 : AHeap} (hlow0 : h0.low ≤ h0.next) {al : Option Addr} {ml cl : Nat} {l : List Comp} (hl : Log h0 al ml l) (hml : (ml : Int) ≤ 1000) {a : Option Addr} {m c : Nat} {bs : List (Nat × Nat)} {n : Int} (hmn : (m : Int) = n) (n1 : 1 ≤ n) (n8 : n ≤ 8) (hlog : logP n l) {lo : Nat} (hlo : h0.next ≤ lo) {Q : Exit → SS → Prop}
    (h1 : ∀ h', Ext h0 h' → OImg h' lo a m bs (mkG n (sums l l.length)) → Q (.exit 0) ⟨[(6, .slice a m c)], 0, [], h'⟩) :
    ∀ i : Int, 0 ≤ i → i ≤ ml → ∀ h, Ext h0 h → OImg h lo a m bs (mkG n (sums l i.toNat)) → head 23 7 0 ⟨[(1, .slice al ml cl), (6, .slice a m c), (7, .int .i64 i)], 0, [], h⟩ Q := by
  have hll := hl.len
  refine countUp (fun i hi0 hin ih h e ho => ?_)
  refine hA.roundR Try.func23 r23_ok ?_; (try (conv => cbv)); repeat (refine brk_ok hA ?_; (try (conv => cbv)))
  refine br (i < ml) (by rw [e_lss hA, e_ofNat hA]) (fun c1 => ?_) (fun c1 => ?_) <;> (try (conv => cbv)) <;> repeat (refine brk_ok hA ?_; (try (conv => cbv)))
  · obtain ⟨h9, hh9⟩ : ∃ x, x = bump h 23 := ⟨_, rfl⟩
    have e9 : Ext h0 h9 := by rw [hh9, e_bump hA]; exact e.trans (.bump _ _)
    have ho9 : OImg h9 lo a m bs (mkG n (sums l i.toNat)) := by rw [hh9, e_bump hA]; exact ho.ext (.bump _ _)
    rw [← hh9]
    obtain ⟨b, o, x, y, f, rfl, hbn, hca, _, hrx, hry, hrf⟩ := (hl.ext e9).at hi0 c1
    have hp : compP n ⟨x, y, f⟩ := by rw [← hca]; exact hlog.2 i hi0 (by omega)
    obtain ⟨p1, p2, p3, p4, p5⟩ := hp
    simp only [] at p1 p2 p3 p4 p5
    refine ⟨b, o, rfl, in_ok hA hi0 c1, ?_⟩
    ((try (conv => cbv)); repeat (refine brk_ok hA ?_; (try (conv => cbv))))
    refine ⟨y, rd_fld hA hry, ?_⟩
    ((try (conv => cbv)); repeat (refine brk_ok hA ?_; (try (conv => cbv))))
    obtain ⟨b1, o1, rb, rn, rc, rfl, hbn1, hrd, hrn, hbi, hown, hrb, hlorb, hne⟩ := ho9.at p3 (by omega)
    refine ⟨b1, o1, rfl, in_ok hA p3 (by omega), ?_⟩
    ((try (conv => cbv)); repeat (refine brk_ok hA ?_; (try (conv => cbv))))
    refine ⟨some ⟨rb, 0, none⟩, rn, rc, rd_ok hA hrd, ?_⟩
    ((try (conv => cbv)); repeat (refine brk_ok hA ?_; (try (conv => cbv))))
    refine ⟨b, o, rfl, in_ok hA hi0 c1, ?_⟩
    ((try (conv => cbv)); repeat (refine brk_ok hA ?_; (try (conv => cbv))))
    refine ⟨x, rd_fld hA hrx, ?_⟩
    have hs := mkG_shp (show 0 ≤ n by omega) (sums l i.toNat)
    have hrl : ((rowAt (mkG n (sums l i.toNat)) y).length : Int) = n := hs.2 y p3 p4
    ((try (conv => cbv)); repeat (refine brk_ok hA ?_; (try (conv => cbv))))
    refine ⟨rb, 0, rfl, in_ok hA p1 (by omega), ?_⟩
    ((try (conv => cbv)); repeat (refine brk_ok hA ?_; (try (conv => cbv))))
    obtain ⟨x0, hx0⟩ : ∃ z, z = sums l i.toNat y x := ⟨_, rfl⟩
    have hx : h9.readG ⟨rb, 0 + x.toNat * 1, none⟩ 1 = some [.int .i64 x0] := by
      have := hown.getInt (i := x.toNat) (by omega)
      rw [Nat.zero_add, Nat.mul_one, this, hx0, ← mkG_cell (sums l i.toNat) p3 p4 p1 p2]
      rfl
    refine ⟨x0, rd_ok hA hx, ?_⟩
    ((try (conv => cbv)); repeat (refine brk_ok hA ?_; (try (conv => cbv))))
    refine ⟨b, o, rfl, in_ok hA hi0 c1, ?_⟩
    ((try (conv => cbv)); repeat (refine brk_ok hA ?_; (try (conv => cbv))))
    refine ⟨f, rd_fld hA hrf, ?_⟩
    ((try (conv => cbv)); repeat (refine brk_ok hA ?_; (try (conv => cbv))))
    have hsm := sums_small hlog i.toNat (by omega) y x
    rw [← hx0] at hsm
    unfold within at p5
    have a1 : arith .add .i64 x0 f = x0 + f := add64 hA (by omega) (by omega)
    obtain ⟨d, hd⟩ : ∃ d, d = x0 + f := ⟨_, rfl⟩
    rw [a1, ← hd]
    refine ⟨rb, 0, rfl, in_ok hA p1 (by omega), ?_⟩
    ((try (conv => cbv)); repeat (refine brk_ok hA ?_; (try (conv => cbv))))
    obtain ⟨h2, w1, w2, w3⟩ := ho9.write (u := x) p3 (by omega) p1 (by omega) d hbi
    refine ⟨h2, wr_ok hA w1, ?_⟩
    have hadd := set_addP (show 0 ≤ n by omega) (sums l i.toNat) (p := ⟨x, y, f⟩) p1 p2 p3 p4
    simp only [] at hadd
    rw [hd, hx0, hadd, ← hca, ← sums_succ l hi0] at w2
    ((try (conv => cbv)); repeat (refine brk_ok hA ?_; (try (conv => cbv))))
    rw [add64 hA (by omega) (by omega)]
    exact ih (by omega) h2 (w3.ext e9 (by omega)) w2
  · have : i.toNat = l.length := by omega
    rw [this] at ho
    exact h1 h e ho

theorem rmod_ok {h : AHeap} (hlow : h.low ≤ h.next) {n : Int} {al : Option Addr} {ml cl : Nat} {l : List Comp} (hl : Log h al ml l) (hml : (ml : Int) ≤ 1000) {Q : Value → AHeap → Prop}
    (hbad : ∀ e h', Ext h h' → ModIs n l e none → Q (.tuple #[.slice none 0 0, .int .i64 e]) h')
    (hok : ∀ g' a' (m : Nat) c' bs h', (m : Int) = n → Ext h h' → OImg h' h.next a' m bs g' → ModIs n l 0 (some g') → Q (.tuple #[.slice a' m c', .int .i64 0]) h') : call 23 [.int .i64 n, .slice al ml cl] h Q := by
  have hbf : bnot false = true := by rw [e_bnot hA]; rfl
  have hbt : bnot true = false := by rw [e_bnot hA]; rfl
  refine hA.bodyR Try.func23 r23_ok (show prims _ _ _ = none from rfl) hlow ?_; (try (conv => cbv)); repeat (refine brk_ok hA ?_; (try (conv => cbv)))
  refine br (n < 1) (by rw [e_lss hA]) (fun c1 => ?_) (fun c1 => ?_) <;> (try (conv => cbv)) <;> repeat (refine brk_ok hA ?_; (try (conv => cbv)))
  · exact hbad _ h (.refl _) (.inl ⟨fun q => by omega, rfl, rfl⟩)
  refine br (8 < n) (by rw [e_gtr hA]) (fun c2 => ?_) (fun c2 => ?_) <;> (try (conv => cbv)) <;> repeat (refine brk_ok hA ?_; (try (conv => cbv)))
  · exact hbad _ h (.refl _) (.inl ⟨fun q => by omega, rfl, rfl⟩)
  refine rlog_ok hA hlow hl hml (n := n) (fun r hr => ⟨_, rfl, ?_⟩)
  ((try (conv => cbv)); repeat (refine brk_ok hA ?_; (try (conv => cbv))))
  cases r with
  | false =>
    ((try (conv => cbv)); repeat (refine brk_ok hA ?_; (try (conv => cbv))))
    refine br (True) (by rw [e_bnot hA]; rfl) (fun _ => ?_) (fun q => absurd trivial q) <;> (try (conv => cbv)) <;> repeat (refine brk_ok hA ?_; (try (conv => cbv)))
    exact hbad _ h (.refl _) (.inr (.inl ⟨by omega, by omega, (fun q => by have := hr.2 q; cases this), rfl, rfl⟩))
  | true =>
    have hl1 := hr.1 rfl
    ((try (conv => cbv)); repeat (refine brk_ok hA ?_; (try (conv => cbv))))
    refine br (False) (by rw [e_bnot hA]; rfl) (fun q => q.elim) (fun _ => ?_) <;> (try (conv => cbv)) <;> repeat (refine brk_ok hA ?_; (try (conv => cbv)))
    refine blank_ok hA hlow (n := n) (by omega) (by omega) (fun a' m c' bs h1 hmn e1 ho1 => ⟨_, _, _, rfl, ?_⟩)
    ((try (conv => cbv)); repeat (refine brk_ok hA ?_; (try (conv => cbv))))
    refine rmod_loop hA hlow hl hml hmn (by omega) (by omega) hl1 (Nat.le_refl _) (fun h' e' ho' => ?_) 0 (by omega) (by omega) h1 e1 ho1
    ((try (conv => cbv)); repeat (refine brk_ok hA ?_; (try (conv => cbv))))
    refine rimg_ok hA (e'.lowOK hlow) ho'.img (by omega) (by omega) (fun r2 hr2 => ⟨_, rfl, ?_⟩)
    rw [mk_img (by omega) (by omega)] at hr2
    ((try (conv => cbv)); repeat (refine brk_ok hA ?_; (try (conv => cbv))))
    cases r2 with
    | false =>
      ((try (conv => cbv)); repeat (refine brk_ok hA ?_; (try (conv => cbv))))
      refine br (True) (by rw [e_bnot hA]; rfl) (fun _ => ?_) (fun q => absurd trivial q) <;> (try (conv => cbv)) <;> repeat (refine brk_ok hA ?_; (try (conv => cbv)))
      exact hbad _ h' e' (.inr (.inr (.inl ⟨by omega, by omega, hl1, (fun q => by have := hr2.2 q; cases this), rfl, rfl⟩)))
    | true =>
      ((try (conv => cbv)); repeat (refine brk_ok hA ?_; (try (conv => cbv))))
      refine br (False) (by rw [e_bnot hA]; rfl) (fun q => q.elim) (fun _ => ?_) <;> (try (conv => cbv)) <;> repeat (refine brk_ok hA ?_; (try (conv => cbv)))
      exact hok _ _ _ _ _ h' hmn e' ho' (.inr (.inr (.inr ⟨by omega, by omega, hl1, hr2.1 rfl, rfl, rfl⟩)))

end Go.Proofs.Ytogofeppflindaa
