/-
  A CLEANING, STEP BY STEP (clean.steps and its function literal).
-/
import Derived.Test.YtogofeppflindaaCPeak
import Derived.Test.YtogofeppflindaaCCheck
import Derived.Test.YtogofeppflindaaCRep
namespace Go.Proofs.Ytogofeppflindaa
open Go.Sim
set_option linter.unusedVariables false
set_option maxRecDepth 100000

/-! ### What a cleaning is -/

/-- The flux that is taken from a cell. -/
def flux (bm : Grid) (n : Int) (c : Cln) (b : Int) : Int := b * c.num / (c.den * cell bm (n - 1) (n - 1))
def pAt (bm : Grid) (n : Int) (c : Cln) (g : Grid) (x y : Int) : Comp := ⟨x, y, flux bm n c (cell g y x)⟩
/-- Nothing is left to be taken. -/
def lowP (bm : Grid) (n : Int) (c : Cln) (g : Grid) (x y : Int) : Prop := cell g y x < c.floor ∨ flux bm n c (cell g y x) = 0

inductive Runs (bm : Grid) (n : Int) (c : Cln) : Nat → Grid → Option (Grid × List Comp) → Prop
  | out (g : Grid) : Runs bm n c 0 g (some (g, []))
  | low {k : Nat} {g : Grid} {x y : Int} (t : Top g n n 0 x y) (h : lowP bm n c g x y) : Runs bm n c (k + 1) g (some (g, []))
  | stop {k : Nat} {g : Grid} {x y : Int} (t : Top g n n 0 x y) (h : ¬ lowP bm n c g x y) (q : ¬ leftOK g bm n (pAt bm n c g x y)) : Runs bm n c (k + 1) g none
  | fail {k : Nat} {g : Grid} {x y : Int} (t : Top g n n 0 x y) (h : ¬ lowP bm n c g x y) (q : leftOK g bm n (pAt bm n c g x y)) (s : Runs bm n c k (subG g bm n (pAt bm n c g x y)) none) : Runs bm n c (k + 1) g none
  | go {k : Nat} {g : Grid} {x y : Int} {g' : Grid} {l : List Comp} (t : Top g n n 0 x y) (h : ¬ lowP bm n c g x y) (q : leftOK g bm n (pAt bm n c g x y)) (s : Runs bm n c k (subG g bm n (pAt bm n c g x y)) (some (g', l))) : Runs bm n c (k + 1) g (some (g', pAt bm n c g x y :: l))

theorem Runs.uniq {bm : Grid} {n : Int} {c : Cln} {k : Nat} {g : Grid} {r r' : Option (Grid × List Comp)} (h : Runs bm n c k g r) (h' : Runs bm n c k g r') : r = r' := by
  induction h generalizing r' with
  | out g => cases h'; rfl
  | low t q =>
    cases h' with
    | low t' q' => rfl
    | stop t' q' => obtain ⟨rfl, rfl⟩ := t.uniq t'; exact absurd q q'
    | fail t' q' => obtain ⟨rfl, rfl⟩ := t.uniq t'; exact absurd q q'
    | go t' q' => obtain ⟨rfl, rfl⟩ := t.uniq t'; exact absurd q q'
  | stop t q w =>
    cases h' with
    | low t' q' => obtain ⟨rfl, rfl⟩ := t.uniq t'; exact absurd q' q
    | stop t' q' => rfl
    | fail t' q' w' => rfl
    | go t' q' w' => obtain ⟨rfl, rfl⟩ := t.uniq t'; exact absurd w' w
  | fail t q w s ih =>
    cases h' with
    | low t' q' => obtain ⟨rfl, rfl⟩ := t.uniq t'; exact absurd q' q
    | stop t' q' => rfl
    | fail t' q' w' => rfl
    | go t' q' w' s' => obtain ⟨rfl, rfl⟩ := t.uniq t'; cases ih s'
  | go t q w s ih =>
    cases h' with
    | low t' q' => obtain ⟨rfl, rfl⟩ := t.uniq t'; exact absurd q' q
    | stop t' q' w' => obtain ⟨rfl, rfl⟩ := t.uniq t'; exact absurd w w'
    | fail t' q' w' s' => obtain ⟨rfl, rfl⟩ := t.uniq t'; cases ih s'
    | go t' q' w' s' => obtain ⟨rfl, rfl⟩ := t.uniq t'; cases ih s'; rfl

theorem flux_in {bm : Grid} {n : Int} {c : Cln} (hb : beamP bm n) (hc : clnP c) (n1 : 1 ≤ n) {b : Int} (b1 : 1 ≤ b) (b2 : b ≤ 1000000000) :
    0 ≤ b * c.num ∧ b * c.num ≤ 10000000000 ∧ 0 < c.den * cell bm (n - 1) (n - 1) ∧ c.den * cell bm (n - 1) (n - 1) ≤ 10000 ∧ 0 ≤ flux bm n c b ∧ flux bm n c b ≤ 1000000000 := by
  obtain ⟨c1, c2, c3, c4, c5, c6, c7⟩ := hc
  have z1 := hb.2
  have z2 := ((hb.1.2 (n - 1) (by omega) (by omega)).2 (n - 1) (by omega) (by omega)).2
  unfold flux
  generalize cell bm (n - 1) (n - 1) = z at *
  have p1 : 0 ≤ b * c.num := Int.mul_nonneg (by omega) (by omega)
  have p2 : b * c.num ≤ 1000000000 * 10 := Int.mul_le_mul b2 (by omega) (by omega) (by omega)
  have p3 : 0 < c.den * z := Int.mul_pos (by omega) z1
  have p4 : c.den * z ≤ 10 * 1000 := Int.mul_le_mul c3 z2 (by omega) (by omega)
  have p5 : c.den * 1 ≤ c.den * z := Int.mul_le_mul_of_nonneg_left (by omega) (by omega)
  have p6 : b * c.num ≤ b * (c.den * z) := Int.mul_le_mul_of_nonneg_left (by omega) (by omega)
  have p7 : b * c.num / (c.den * z) ≤ b := Int.ediv_le_of_le_mul p3 p6
  exact ⟨p1, by omega, p3, by omega, Int.ediv_nonneg p1 (by omega), by omega⟩

theorem pAt_comp {bm : Grid} {n : Int} {c : Cln} {g : Grid} {x y : Int} (hb : beamP bm n) (hc : clnP c) (n1 : 1 ≤ n) (hs : squareP g n 1000000000) (t : Top g n n 0 x y) (hl : ¬ lowP bm n c g x y) : compP n (pAt bm n c g x y) := by
  have t1 := t.x0; have t2 := t.x1; have t3 := t.y0; have t4 := t.y1
  have w := (hs.2 y t3 t4).2 x t1 t2
  obtain ⟨c1, c2, c3, c4, c5, c6, c7⟩ := hc
  have hf : c.floor ≤ cell g y x := by
    rcases Int.lt_or_le (cell g y x) c.floor with q | q
    · exact absurd (.inl q) hl
    · exact q
  obtain ⟨_, _, _, _, f1, f2⟩ := flux_in hb ⟨c1, c2, c3, c4, c5, c6, c7⟩ n1 (b := cell g y x) (by omega) (by omega)
  exact ⟨t1, t2, t3, t4, by unfold within pAt; simp only []; omega⟩

/-! ### Where things lie while it runs -/

structure Pl where
  b6 : Nat
  b7 : Nat
  b8 : Nat
  lo : Nat
  hi : Nat
  s1 : Nat
  s2 : Nat
  s3 : Nat
  y : Nat
  h67 : b6 < b7
  h78 : b7 < b8
  h8l : b8 < lo
  hlh : lo ≤ hi
  hs1 : hi ≤ s1
  h12 : s1 < s2
  h23 : s2 < s3
  h3y : s3 < y

structure Base (P : Pl) (h0 : AHeap) (vL vB : Value) (c : Cln) (LB : Blk) (al : Option Addr) (k cl : Nat) (l : List Comp) (h : AHeap) : Prop where
  ext : Ext h0 h
  o6 : Own h P.b6 1 [vL]
  o7 : Own h P.b7 1 [.slice al k cl]
  o8 : Own h P.b8 1 [.int .i64 0]
  s1 : Own h P.s1 1 [vL]
  s2 : Own h P.s2 1 [vB]
  s3 : Own h P.s3 4 c.cells
  lp : h.m.get P.y = some LB
  nx : P.y < h.next
  log : Apd h 3 al k cl (flatC l)
  frm : From (P.y + 1) al

theorem Base.keep {P : Pl} {h0 : AHeap} {vL vB : Value} {c : Cln} {LB : Blk} {al : Option Addr} {k cl : Nat} {l : List Comp} {h h' : AHeap} (p : Base P h0 vL vB c LB al k cl l h) (e : Ext h0 h') (hn : h.next ≤ h'.next) (hg : ∀ b, b < h.next → (b < P.lo ∨ P.hi ≤ b) → h'.m.get b = h.m.get b) : Base P h0 vL vB c LB al k cl l h' := by
  have a1 := P.h67; have a2 := P.h78; have a3 := P.h8l; have a4 := P.hlh; have a5 := P.hs1; have a6 := P.h12; have a7 := P.h23; have a8 := P.h3y
  have nx := p.nx
  exact { ext := e
          o6 := p.o6.of_get (hg _ (by omega) (by omega))
          o7 := p.o7.of_get (hg _ (by omega) (by omega))
          o8 := p.o8.of_get (hg _ (by omega) (by omega))
          s1 := p.s1.of_get (hg _ (by omega) (by omega))
          s2 := p.s2.of_get (hg _ (by omega) (by omega))
          s3 := p.s3.of_get (hg _ (by omega) (by omega))
          lp := (hg _ (by omega) (by omega)).trans p.lp
          nx := by omega
          log := p.log.of_get hn (fun ad had hb => hg _ hb (.inr (by have := p.frm ad had; omega)))
          frm := p.frm }
theorem Base.r1 {P : Pl} {h0 : AHeap} {vL vB : Value} {c : Cln} {LB : Blk} {al : Option Addr} {k cl : Nat} {l : List Comp} {h : AHeap} (p : Base P h0 vL vB c LB al k cl l h) : h.readG ⟨P.s1, 0, none⟩ 1 = some [vL] := p.s1.readG (by simp)
theorem Base.r2 {P : Pl} {h0 : AHeap} {vL vB : Value} {c : Cln} {LB : Blk} {al : Option Addr} {k cl : Nat} {l : List Comp} {h : AHeap} (p : Base P h0 vL vB c LB al k cl l h) : h.readG ⟨P.s2, 0, none⟩ 1 = some [vB] := p.s2.readG (by simp)
theorem Base.r3 {P : Pl} {h0 : AHeap} {vL vB : Value} {c : Cln} {LB : Blk} {al : Option Addr} {k cl : Nat} {l : List Comp} {h : AHeap} (p : Base P h0 vL vB c LB al k cl l h) : h.readG ⟨P.s3, 0 + 0, none⟩ 1 = some [.int .i64 c.num] ∧ h.readG ⟨P.s3, 0 + 1, none⟩ 1 = some [.int .i64 c.den] ∧ h.readG ⟨P.s3, 0 + 2, none⟩ 1 = some [.int .i64 c.floor] ∧ h.readG ⟨P.s3, 0 + 3, none⟩ 1 = some [.int .i64 c.steps] :=
  ⟨p.s3.readG (by simp [Cln.cells]), p.s3.readG (by simp [Cln.cells]), p.s3.readG (by simp [Cln.cells]), p.s3.readG (by simp [Cln.cells])⟩
theorem Base.exts {P : Pl} {h0 : AHeap} {vL vB : Value} {c : Cln} {LB : Blk} {al : Option Addr} {k cl : Nat} {l : List Comp} {h h' : AHeap} (p : Base P h0 vL vB c LB al k cl l h) (e : Ext h h') : Base P h0 vL vB c LB al k cl l h' :=
  p.keep (p.ext.trans e) e.next (fun b hb _ => e.get b hb)

theorem OImg.lo_mem {h : AHeap} {lo : Nat} {a : Option Addr} {n : Nat} {bs : List (Nat × Nat)} {g : Grid} (p : OImg h lo a n bs g) : ∀ x ∈ bs, lo ≤ x.1 := by
  intro x hx
  obtain ⟨i, hi⟩ := List.getElem?_of_mem hx
  have hil : i < bs.length := (List.getElem?_eq_some_iff.1 hi).1
  have hbl := p.len
  exact (p.rows i x _ hi (getD_some g i [] (by omega))).2.2

/-- The mark of what was written is put back. -/
theorem Ext.lower' {h h1 h2 : AHeap} (e : Ext h h2) (e1 : Ext h h1) (hl : h.low ≤ h.next) : Ext h (h2.lowered h1.low) := by
  have a := e.lowG
  have b := e1.lowG
  have c := e.low hl
  refine ⟨e.next, fun _ => ?_, ?_, e.get⟩
  · show Nat.min h1.low h2.low ≤ h2.next
    have : Nat.min h1.low h2.low ≤ h2.low := Nat.min_le_right _ _
    omega
  · show Nat.min h.low h.next ≤ Nat.min h1.low h2.low
    exact Nat.le_min.2 ⟨b, a⟩

/-- A cell was out of range. -/
structure Bad (P : Pl) (h0 h : AHeap) : Prop where
  ext : Ext h0 h
  o6 : Own h P.b6 1 [.slice none 0 0]
  o7 : Own h P.b7 1 [.slice none 0 0]
  o8 : Own h P.b8 1 [.int .i64 16]
  lp : LoopIs h P.y .done (some .ret)
  nx : P.y < h.next

variable {call : FuncId → List Value → AHeap → (Value → AHeap → Prop) → Prop}
  {head : FuncId → Nat → Nat → SS → (Exit → SS → Prop) → Prop}
  {arith : BinOp → IntKind → Int → Int → Int}
  {cmp : BinOp → Int → Int → Bool}
  {scmp : BinOp → ByteArray → ByteArray → Bool}
  {bnot : Bool → Bool}
  {bsame : Bool → Bool → Bool}
  {conv : IntKind → Int → Int}
  {neg : IntKind → Int → Int}
  {imax : Int → Int → Int}
  {imin : Int → Int → Int}
  {ofNat : Nat → Int}
  {slen : ByteArray → Int}
  {place : Nat → Int → Nat → Nat}
  {inR : Int → Nat → Prop}
  {nz : Int → Prop}
  {geZ : Int → Prop}
  {rd : AHeap → Nat → Nat → Nat → List Value → Prop}
  {wr : AHeap → Nat → Nat → List Value → AHeap → Prop}
  {push : AHeap → Nat → List Value → AHeap}
  {next : AHeap → Nat}
  {mkOK : Int → Int → Prop}
  {nat : Int → Nat}
  {zeros : List Value → Int → List Value}
  {sadd : ByteArray → ByteArray → (ByteArray → Prop) → Prop}
  {eqAgg : TypeId → Array Value → Array Value → (Bool → Prop) → Prop}
  {cut : Nat → Int → Prop}
  {slc : TypeId → Value → Option Value → Option Value → Option Value → (Option Addr → Nat → Nat → Prop) → Prop}
  {sslc : TypeId → ByteArray → Option Value → Option Value → (ByteArray → Prop) → Prop}
  {strAt : ByteArray → Int → (Int → Prop) → Prop}
  {part : TypeId → Array Value → Nat → Value → Prop}
  {app : List TypeId → List Value → AHeap → (Option Addr → Nat → Nat → AHeap → Prop) → Prop}
  {cpy : List TypeId → List Value → AHeap → (Int → AHeap → Prop) → Prop}
  {putAt : AHeap → Nat → Nat → List Value → AHeap}
  {fresh : AHeap → AHeap}
  {lowered : AHeap → AHeap → AHeap}
  {bump : AHeap → Nat → AHeap}
  {wrote : AHeap → AHeap → Bool}
  {addN : Nat → Nat → Nat}
  {lt : Nat → Nat → Prop}
  {ne : Nat → Nat → Prop}
  {fpAll : Bool → Bool → Bool → Nat → Nat → Prop}
  {brk : (Unit → Prop) → Prop}
  {yn : Nat → Nat}
  {rng : FuncId → Nat → SS → (Exit → SS → Prop) → Prop}
  {mget : TypeId → Value → Value → AHeap → Value → Bool → Prop}
  {mput : TypeId → Value → Value → Value → AHeap → AHeap → Prop}
  {mnew : AHeap → AHeap}
  {bytes : TypeId → TypeId → Option Addr → Nat → AHeap → ByteArray → Prop}
  {clr : List TypeId → List Value → AHeap → AHeap → Prop}
  (hA : AOK progU hint prims ⟨call, head, arith, cmp, scmp, bnot, bsame, conv, neg, imax, imin, ofNat, slen, place, inR, nz, geZ, rd, wr, push, next, mkOK, nat, zeros, sadd, eqAgg, cut, slc, sslc, strAt, part, app, cpy, putAt, fresh, lowered, bump, wrote, addN, lt, ne, fpAll, brk, yn, rng, mget, mput, mnew, bytes, clr⟩)
include hA

theorem steps_loop {P : Pl} {h0 : AHeap} (hlow0 : h0.low ≤ h0.next) (hlo : h0.next ≤ P.b6) {ab : Option Addr} {mb cb : Nat} {bm : Grid} (hb : Img h0 ab mb bm) {a : Option Addr} {m ca : Nat} {bs : List (Nat × Nat)} {n : Int} (hmn : (m : Int) = n) (n1 : 1 ≤ n) (n8 : n ≤ 8) (hbm : beamP bm n) {c : Cln} (hc : clnP c) {LB : Blk} {img : Grid} {z : Int} (hz : z = cell bm (n - 1) (n - 1))
    (hbs : (∀ p ∈ bs, p.1 < P.hi) ∧ ∀ ad, a = some ad → ad.block < P.hi ∧ P.lo ≤ ad.block)
    (hy1 : ∀ (h : AHeap) al k cl l (p : Comp) (Q : Value → AHeap → Prop), Base P h0 (.slice a m ca) (.slice ab mb cb) c LB al k cl l h → h.low ≤ h.next → l.length < 1000 → (∀ h' al' k' cl', Base P h0 (.slice a m ca) (.slice ab mb cb) c LB al' k' cl' (l ++ [p]) h' → h.next ≤ h'.next → (∀ b, P.lo ≤ b → b < P.hi → h'.m.get b = h.m.get b) → Q (.bool true) h') → call (yn P.y) [.agg p.cells.toArray, .bool true] h Q)
    (hy2 : ∀ (h : AHeap) al k cl l (p : Comp) (Q : Value → AHeap → Prop), Base P h0 (.slice a m ca) (.slice ab mb cb) c LB al k cl l h → h.low ≤ h.next → (∀ h', Bad P h0 h' → Q (.bool false) h') → call (yn P.y) [.agg p.cells.toArray, .bool false] h Q)
    {Q : Exit → SS → Prop}
    (h1 : ∀ x e kn K h' g al k cl l, (x = .ret ∨ x = .exit 0) → Base P h0 (.slice a m ca) (.slice ab mb cb) c LB al k cl l h' → OImg h' P.lo a m bs g → Runs bm n c c.steps.toNat img (some (g, l)) → Q x ⟨e, kn, K, h'⟩)
    (h2 : ∀ e kn K h', Bad P h0 h' → Runs bm n c c.steps.toNat img none → Q .ret ⟨e, kn, K, h'⟩) :
    ∀ i : Int, 0 ≤ i → i ≤ c.steps.toNat → ∀ h g al k cl l, Base P h0 (.slice a m ca) (.slice ab mb cb) c LB al k cl l h → OImg h P.lo a m bs g → squareP g n 1000000000 → (l.length : Int) = i → (∀ r, Runs bm n c (c.steps.toNat - i.toNat) g r → Runs bm n c c.steps.toNat img (r.map fun s => (s.1, l ++ s.2))) →
      head 46 3 0 ⟨[(0, .func (.yield P.y) #[] #[]), (1, .pointer (some ⟨P.s1, 0, none⟩)), (2, .pointer (some ⟨P.s2, 0, none⟩)), (3, .pointer (some ⟨P.s3, 0, none⟩)), (6, .int .i64 z), (24, .int .i64 c.steps), (25, .int .i64 i)], 0, [], h⟩ Q := by
  obtain ⟨num, den, floor, steps⟩ := c
  have hc' := hc
  obtain ⟨k1, k2, k3, k4, k5, k6, k7⟩ := hc
  simp only [] at k1 k2 k3 k4 k5 k6 k7
  refine countUp (fun i hi0 hin ih h g al k cl l hB ho hs hl hf => ?_)
  simp only [] at hin
  refine hA.roundR Try.func46 r46_ok ?_; (try (conv => cbv)); repeat (refine brk_ok hA ?_; (try (conv => cbv)))
  refine br (i < steps) (by rw [e_lss hA]) (fun c1 => ?_) (fun c1 => ?_) <;> (try (conv => cbv)) <;> repeat (refine brk_ok hA ?_; (try (conv => cbv)))
  · have hlow := hB.ext.lowOK hlow0
    obtain ⟨k', hk'⟩ : ∃ k', steps.toNat - i.toNat = k' + 1 := ⟨steps.toNat - i.toNat - 1, by omega⟩
    simp only [hk'] at hf
    refine ⟨_, _, _, rd_at hA hB.r1, ?_⟩
    ((try (conv => cbv)); repeat (refine brk_ok hA ?_; (try (conv => cbv))))
    refine bri_ok hA hlow ho.img hmn n1 (by omega) (squareP_shp hs) (fun x y w t hw => ⟨_, _, _, rfl, ?_⟩)
    ((try (conv => cbv)); repeat (refine brk_ok hA ?_; (try (conv => cbv))))
    have hw2 := ((hs.2 y t.y0 t.y1).2 x t.x0 t.x1).2
    rw [← hw] at hw2
    obtain ⟨r30, r31, r32, r33⟩ := hB.r3
    refine ⟨floor, rd_fld0 hA r32, ?_⟩
    ((try (conv => cbv)); repeat (refine brk_ok hA ?_; (try (conv => cbv))))
    refine br (w < floor) (by rw [e_lss hA]) (fun c2 => ?_) (fun c2 => ?_) <;> (try (conv => cbv)) <;> repeat (refine brk_ok hA ?_; (try (conv => cbv)))
    · refine h1 _ _ _ _ h g al k cl l (.inl rfl) hB ho ?_
      have := hf _ (.low t (.inl (by rw [← hw]; exact c2)))
      simpa using this
    obtain ⟨f1, f2, f3, f4, f5, f6⟩ := flux_in hbm hc' n1 (b := w) (by omega) (by omega)
    simp only [] at f1 f2 f3 f4
    obtain ⟨fl, hfl⟩ : ∃ fl, fl = flux bm n ⟨num, den, floor, steps⟩ w := ⟨_, rfl⟩
    have hfl' : fl = w * num / (den * z) := by rw [hfl, hz]; rfl
    rw [← hz] at f3 f4
    rw [← hfl] at f5 f6
    refine ⟨num, rd_fld0 hA r30, ?_⟩
    ((try (conv => cbv)); repeat (refine brk_ok hA ?_; (try (conv => cbv))))
    refine ⟨den, rd_fld0 hA r31, ?_⟩
    ((try (conv => cbv)); repeat (refine brk_ok hA ?_; (try (conv => cbv))))
    obtain ⟨wn, hwn⟩ : ∃ v, v = w * num := ⟨_, rfl⟩
    obtain ⟨dz, hdz⟩ : ∃ v, v = den * z := ⟨_, rfl⟩
    rw [← hwn] at f1 f2
    rw [← hdz] at f3 f4
    have q1 : arith .mul .i64 w num = wn := by rw [hwn]; exact mul64 hA (by omega) (by omega)
    have q2 : arith .mul .i64 den z = dz := by rw [hdz]; exact mul64 hA (by omega) (by omega)
    have q3 : arith .quo .i64 wn dz = fl := by rw [hfl', ← hwn, ← hdz, quo64 hA f1 (by omega) f3]
    rw [q1, q2]
    refine ⟨nz_ok hA (by omega), ?_⟩
    ((try (conv => cbv)); repeat (refine brk_ok hA ?_; (try (conv => cbv))))
    rw [q3]
    refine br (fl = 0) (by rw [e_eql hA]) (fun c3 => ?_) (fun c3 => ?_) <;> (try (conv => cbv)) <;> repeat (refine brk_ok hA ?_; (try (conv => cbv)))
    · refine h1 _ _ _ _ h g al k cl l (.inl rfl) hB ho ?_
      have := hf _ (.low t (.inr (by rw [← hw, ← hfl]; exact c3)))
      simpa using this
    have hnl : ¬ lowP bm n ⟨num, den, floor, steps⟩ g x y := by
      rintro (q | q)
      · rw [← hw] at q; exact c2 q
      · rw [← hw, ← hfl] at q; exact c3 q
    have hpa : pAt bm n ⟨num, den, floor, steps⟩ g x y = ⟨x, y, fl⟩ := by unfold pAt; rw [← hw, ← hfl]
    have hp := pAt_comp hbm hc' n1 hs t hnl
    rw [hpa] at hp
    obtain ⟨h8, hh8⟩ : ∃ v, v = bump h 8 := ⟨_, rfl⟩
    obtain ⟨nh, hnh⟩ : ∃ v, v = next h := ⟨_, rfl⟩
    have e8 : Ext h h8 := by rw [hh8, e_bump hA]; exact .bump _ _
    have hB8 := hB.exts e8
    rw [← hh8, ← hnh]
    refine ⟨_, _, _, rd_at hA hB8.r1, ?_⟩
    ((try (conv => cbv)); repeat (refine brk_ok hA ?_; (try (conv => cbv))))
    refine ⟨_, _, _, rd_at hA hB8.r2, ?_⟩
    ((try (conv => cbv)); repeat (refine brk_ok hA ?_; (try (conv => cbv))))
    have eF : Ext h8 (fresh h8) := by rw [e_fresh hA]; exact .freshed _
    have b1 := P.h67; have b2 := P.h78; have b3 := P.h8l
    refine psub_ok2 hA hlow0 (hB8.ext.trans eF) hb (by omega) hmn (subOK_of n1 n8 hs hbm hp) ((ho.ext e8).ext eF) (fun h9 e9 kp ho9 hle => ⟨_, rfl, ?_⟩) (fun h9 e9 kp hle => ⟨_, rfl, ?_⟩)
    · ((try (conv => cbv)); repeat (refine brk_ok hA ?_; (try (conv => cbv))))
      obtain ⟨hL, hhL⟩ : ∃ v, v = lowered h8 h9 := ⟨_, rfl⟩
      have hL' : hL = h9.lowered h8.low := by rw [hhL, e_lowered hA]
      have eL : Ext h0 hL := by rw [hL']; exact Ext.lower' e9 hB8.ext hlow0
      have mL : ∀ b, hL.m.get b = h9.m.get b := fun b => by rw [hL']; rfl
      have nL : hL.next = h9.next := by rw [hL']; rfl
      have hBL := hB8.keep eL (by have := kp.1; have := eF.next; omega) (fun b hb hq => by
        rw [mL, kp.2 b (by have := eF.next; omega) (fun p hp e => by have := hbs.1 p hp; have := ho9.lo_mem p hp; omega), eF.get b hb])
      have hoL := ho9.of_get (h' := hL) (by omega) (fun ad _ _ => mL _) (fun x _ _ => mL _)
      rw [← hhL]
      have eF2 : Ext hL (fresh hL) := by rw [e_fresh hA]; exact .freshed _
      have lF2 : (fresh hL).low ≤ (fresh hL).next := by rw [e_fresh hA]; exact freshed_low _
      refine hy1 _ al k cl l ⟨x, y, fl⟩ _ (hBL.exts eF2) lF2 (by omega) (fun h10 al' kk cl' hB10 n10 g10 => ⟨_, rfl, ?_⟩)
      ((try (conv => cbv)); repeat (refine brk_ok hA ?_; (try (conv => cbv))))
      obtain ⟨hM, hhM⟩ : ∃ v, v = lowered hL h10 := ⟨_, rfl⟩
      have hM' : hM = h10.lowered hL.low := by rw [hhM, e_lowered hA]
      have eM : Ext h0 hM := by rw [hM']; exact Ext.lower' hB10.ext eL hlow0
      have mM : ∀ b, hM.m.get b = h10.m.get b := fun b => by rw [hM']; rfl
      have nM : hM.next = h10.next := by rw [hM']; rfl
      have hBM := hB10.keep eM (by omega) (fun b _ _ => mM b)
      have hoM := hoL.of_get (h' := hM) (by have := eF2.next; omega) (fun ad had hb => by rw [mM, g10 _ (hbs.2 ad had).2 (hbs.2 ad had).1, eF2.get _ hb]) (fun p hp hb => by rw [mM, g10 _ (hoL.lo_mem p hp) (hbs.1 p hp), eF2.get _ hb])
      rw [← hhM]
      refine br (False) (by rw [e_bnot hA]; rfl) (fun q => q.elim) (fun _ => ?_) <;> (try (conv => cbv)) <;> repeat (refine brk_ok hA ?_; (try (conv => cbv)))
      rw [add64 hA (by omega) (by omega)]
      rw [← hpa] at hle hoM hBM
      refine ih (by simp only []; omega) hM _ al' kk cl' _ hBM hoM ((left_square n1).2 hle) (by simp; omega) (fun r hr => ?_)
      have e1 : steps.toNat - (i + 1).toNat = k' := by omega
      simp only [e1] at hr
      cases r with
      | none => exact hf none (.fail t hnl hle hr)
      | some s =>
        have := hf (some (s.1, pAt bm n ⟨num, den, floor, steps⟩ g x y :: s.2)) (.go t hnl hle hr)
        simpa using this
    · ((try (conv => cbv)); repeat (refine brk_ok hA ?_; (try (conv => cbv))))
      obtain ⟨hL, hhL⟩ : ∃ v, v = lowered h8 h9 := ⟨_, rfl⟩
      have hL' : hL = h9.lowered h8.low := by rw [hhL, e_lowered hA]
      have eL : Ext h0 hL := by rw [hL']; exact Ext.lower' e9 hB8.ext hlow0
      have mL : ∀ b, hL.m.get b = h9.m.get b := fun b => by rw [hL']; rfl
      have nL : hL.next = h9.next := by rw [hL']; rfl
      have hBL := hB8.keep eL (by have := kp.1; have := eF.next; omega) (fun b hb hq => by
        rw [mL, kp.2 b (by have := eF.next; omega) (fun p hp e => by have := hbs.1 p hp; have := ho.lo_mem p hp; omega), eF.get b hb])
      rw [← hhL]
      have eF2 : Ext hL (fresh hL) := by rw [e_fresh hA]; exact .freshed _
      have lF2 : (fresh hL).low ≤ (fresh hL).next := by rw [e_fresh hA]; exact freshed_low _
      refine hy2 _ al k cl l ⟨x, y, fl⟩ _ (hBL.exts eF2) lF2 (fun h10 hB10 => ⟨_, rfl, ?_⟩)
      ((try (conv => cbv)); repeat (refine brk_ok hA ?_; (try (conv => cbv))))
      obtain ⟨hM, hhM⟩ : ∃ v, v = lowered hL h10 := ⟨_, rfl⟩
      have hM' : hM = h10.lowered hL.low := by rw [hhM, e_lowered hA]
      have eM : Ext h0 hM := by rw [hM']; exact Ext.lower' hB10.ext eL hlow0
      have hBM : Bad P h0 hM := by
        obtain ⟨f, nt, env, ps, as1, bo1, hlp⟩ := hB10.lp.ex
        have nx := hB10.nx
        rw [hM']
        exact ⟨by rw [← hM']; exact eM, hB10.o6, hB10.o7, hB10.o8, ⟨⟨f, nt, env, ps, as1, bo1, hlp⟩⟩, nx⟩
      rw [← hhM]
      refine br (True) (by rw [e_bnot hA]; rfl) (fun _ => ?_) (fun q => absurd trivial q) <;> (try (conv => cbv)) <;> repeat (refine brk_ok hA ?_; (try (conv => cbv)))
      rw [← hpa] at hle
      exact h2 _ _ _ hM hBM (by have := hf none (.stop t hnl hle); exact this)
  · have : i.toNat = steps.toNat := by omega
    refine h1 _ _ _ _ h g al k cl l (.inr rfl) hB ho ?_
    have := hf _ (by simp only [this, Nat.sub_self]; exact .out g)
    simpa using this

theorem steps1_ok {P : Pl} {h0 : AHeap} (hlow0 : h0.low ≤ h0.next) (hlo : h0.next ≤ P.b6) {ab : Option Addr} {mb cb : Nat} {bm : Grid} (hb : Img h0 ab mb bm) {a : Option Addr} {m ca : Nat} {bs : List (Nat × Nat)} {n : Int} (hmn : (m : Int) = n) (n1 : 1 ≤ n) (n8 : n ≤ 8) (hbm : beamP bm n) {c : Cln} (hc : clnP c) {LB : Blk} {img : Grid}
    (hbs : (∀ p ∈ bs, p.1 < P.hi) ∧ ∀ ad, a = some ad → ad.block < P.hi ∧ P.lo ≤ ad.block)
    (hy1 : ∀ (h : AHeap) al k cl l (p : Comp) (Q : Value → AHeap → Prop), Base P h0 (.slice a m ca) (.slice ab mb cb) c LB al k cl l h → h.low ≤ h.next → l.length < 1000 → (∀ h' al' k' cl', Base P h0 (.slice a m ca) (.slice ab mb cb) c LB al' k' cl' (l ++ [p]) h' → h.next ≤ h'.next → (∀ b, P.lo ≤ b → b < P.hi → h'.m.get b = h.m.get b) → Q (.bool true) h') → call (yn P.y) [.agg p.cells.toArray, .bool true] h Q)
    (hy2 : ∀ (h : AHeap) al k cl l (p : Comp) (Q : Value → AHeap → Prop), Base P h0 (.slice a m ca) (.slice ab mb cb) c LB al k cl l h → h.low ≤ h.next → (∀ h', Bad P h0 h' → Q (.bool false) h') → call (yn P.y) [.agg p.cells.toArray, .bool false] h Q)
    {h : AHeap} (hB : Base P h0 (.slice a m ca) (.slice ab mb cb) c LB none 0 0 [] h) (ho : OImg h P.lo a m bs img) (hs : squareP img n 1000000000) {Q : Value → AHeap → Prop}
    (h1 : ∀ h' g al k cl l, Base P h0 (.slice a m ca) (.slice ab mb cb) c LB al k cl l h' → OImg h' P.lo a m bs g → Runs bm n c c.steps.toNat img (some (g, l)) → Q undef h')
    (h2 : ∀ h', Bad P h0 h' → Runs bm n c c.steps.toNat img none → Q undef h') :
    call 46 [.func (.yield P.y) #[] #[], .pointer (some ⟨P.s1, 0, none⟩), .pointer (some ⟨P.s2, 0, none⟩), .pointer (some ⟨P.s3, 0, none⟩)] h Q := by
  have hlow := hB.ext.lowOK hlow0
  have c6 := hc.2.2.2.2.2.1
  have hbl := hb.len
  have hb1 := hbm.1.1
  obtain ⟨z, hz⟩ : ∃ z, z = cell bm (n - 1) (n - 1) := ⟨_, rfl⟩
  have hmo : ofNat m = n := by rw [e_ofNat hA]; exact hmn
  have e3 : arith .sub .i64 n 1 = n - 1 := sub64 hA (by omega) (by omega)
  obtain ⟨steps, hst⟩ : ∃ v, v = c.steps := ⟨_, rfl⟩
  obtain ⟨r30, r31, r32, r33⟩ := hB.r3
  rw [← hst] at r33
  refine hA.bodyR Try.func46 r46_ok (show prims _ _ _ = none from rfl) hlow ?_; (try (conv => cbv)); repeat (refine brk_ok hA ?_; (try (conv => cbv)))
  refine ⟨_, _, _, rd_at hA hB.r1, ?_⟩
  ((try (conv => cbv)); repeat (refine brk_ok hA ?_; (try (conv => cbv))))
  refine ⟨_, _, _, rd_at hA hB.r2, ?_⟩
  ((try (conv => cbv)); repeat (refine brk_ok hA ?_; (try (conv => cbv))))
  rw [hmo, e3]
  obtain ⟨b, o, ra, rn, rc, rfl, hbn, hrd, hrow, hrl⟩ := (hb.ext hB.ext).row (i := n - 1) (by omega) (by omega)
  have hq2 := (hbm.1.2 (n - 1) (by omega) (by omega)).1
  refine ⟨b, o, rfl, in_ok hA (by omega) (by omega), ?_⟩
  ((try (conv => cbv)); repeat (refine brk_ok hA ?_; (try (conv => cbv))))
  refine ⟨ra, rn, rc, rd_ok hA hrd, ?_⟩
  ((try (conv => cbv)); repeat (refine brk_ok hA ?_; (try (conv => cbv))))
  obtain ⟨b2, o2, x, rfl, hb2, hx, hrd2⟩ := hrow.at (i := n - 1) (by omega) (by omega)
  rw [e3]
  refine ⟨b2, o2, rfl, in_ok hA (by omega) (by omega), ?_⟩
  ((try (conv => cbv)); repeat (refine brk_ok hA ?_; (try (conv => cbv))))
  refine ⟨x, rd_ok hA hrd2, ?_⟩
  ((try (conv => cbv)); repeat (refine brk_ok hA ?_; (try (conv => cbv))))
  refine ⟨steps, rd_fld0 hA r33, ?_⟩
  ((try (conv => cbv)); repeat (refine brk_ok hA ?_; (try (conv => cbv))))
  rw [hst]
  refine steps_loop hA hlow0 hlo hb hmn n1 n8 hbm hc (img := img) hx hbs hy1 hy2 (fun x e kn K h' g al k cl l hxx hB' ho' hr => ?_) (fun e kn K h' hB' hr => ?_) 0 (by omega) (by omega) h img none 0 0 [] hB ho hs rfl (fun r hr => ?_)
  · rcases hxx with rfl | rfl
    · ((try (conv => cbv)); repeat (refine brk_ok hA ?_; (try (conv => cbv))))
      exact h1 h' g al k cl l hB' ho' hr
    · ((try (conv => cbv)); repeat (refine brk_ok hA ?_; (try (conv => cbv))))
      exact h1 h' g al k cl l hB' ho' hr
  · ((try (conv => cbv)); repeat (refine brk_ok hA ?_; (try (conv => cbv))))
    exact h2 h' hB' hr
  · cases r with
    | none => exact hr
    | some s => exact hr

/-- steps: a function literal with three boxes. -/
theorem steps_ok {h : AHeap} (hlow : h.low ≤ h.next) {vL vB : Value} {c : Cln} {a : Option Addr} {m k : Nat} {ab : Option Addr} {mb kb : Nat} {Q : Value → AHeap → Prop}
    (hQ : ∀ s1 s2 s3 h', Ext h h' → h.next ≤ s1 → s1 < s2 → s2 < s3 → s3 < h'.next → Own h' s1 1 [.slice a m k] → Own h' s2 1 [.slice ab mb kb] → Own h' s3 4 c.cells → Q (.func (.func 46) #[] #[.pointer (some ⟨s1, 0, none⟩), .pointer (some ⟨s2, 0, none⟩), .pointer (some ⟨s3, 0, none⟩)]) h') : call 32 [.slice a m k, .slice ab mb kb, .agg c.cells.toArray] h Q := by
  obtain ⟨num, den, floor, steps⟩ := c
  refine hA.bodyR Try.func32 r32_ok (show prims _ _ _ = none from rfl) hlow ?_; (try (conv => cbv)); repeat (refine brk_ok hA ?_; (try (conv => cbv)))
  simp only [e_next hA, e_push hA]
  have e1 := Ext.push h 1 [Value.slice a m k]
  have o1 := Own.push h 1 [Value.slice a m k]
  have n1 : (h.push 1 [Value.slice a m k]).next = h.next + 1 := rfl
  generalize h.push 1 [Value.slice a m k] = h1 at *
  have e2 := Ext.push h1 1 [Value.slice ab mb kb]
  have o2 := Own.push h1 1 [Value.slice ab mb kb]
  have n2 : (h1.push 1 [Value.slice ab mb kb]).next = h1.next + 1 := rfl
  generalize h1.push 1 [Value.slice ab mb kb] = h2 at *
  have e3 := Ext.push h2 4 [Value.int .i64 num, Value.int .i64 den, Value.int .i64 floor, Value.int .i64 steps]
  have o3 := Own.push h2 4 [Value.int .i64 num, Value.int .i64 den, Value.int .i64 floor, Value.int .i64 steps]
  have n3 : (h2.push 4 [Value.int .i64 num, Value.int .i64 den, Value.int .i64 floor, Value.int .i64 steps]).next = h2.next + 1 := rfl
  generalize h2.push 4 [Value.int .i64 num, Value.int .i64 den, Value.int .i64 floor, Value.int .i64 steps] = h3 at *
  exact hQ _ _ _ _ ((e1.trans e2).trans e3) (by omega) (by omega) (by omega) (by omega) ((o1.ext e2 (by omega)).ext e3 (by omega)) (o2.ext e3 (by omega)) o3

end Go.Proofs.Ytogofeppflindaa
