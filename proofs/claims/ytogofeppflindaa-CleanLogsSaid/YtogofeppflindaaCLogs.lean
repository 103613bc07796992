/-
  The law CleanLogs: its walk.
-/
import Derived.Test.YtogofeppflindaaCTwo
import Derived.Test.YtogofeppflindaaSeatL8
namespace Go.Proofs.Ytogofeppflindaa
open Go.Sim
set_option linter.unusedVariables false
set_option maxRecDepth 100000

variable {call : FuncId → List Value → AHeap → (Value → AHeap → Prop) → Prop}
  {head : FuncId → Nat → Nat → SS → (Exit → SS → Prop) → Prop}
  {arith : BinOp → IntKind → Int → Int → Int}
  {cmp : BinOp → Int → Int → Bool}
  {scmp : BinOp → ByteArray → ByteArray → Bool}
  {bnot : Bool → Bool}
  {bsame : Bool → Bool → Bool}
  {conv : IntKind → Int → Int}
  {neg : IntKind → Int → Int}
  {imax : Int → Int → Int}
  {imin : Int → Int → Int}
  {ofNat : Nat → Int}
  {slen : ByteArray → Int}
  {place : Nat → Int → Nat → Nat}
  {inR : Int → Nat → Prop}
  {nz : Int → Prop}
  {geZ : Int → Prop}
  {rd : AHeap → Nat → Nat → Nat → List Value → Prop}
  {wr : AHeap → Nat → Nat → List Value → AHeap → Prop}
  {push : AHeap → Nat → List Value → AHeap}
  {next : AHeap → Nat}
  {mkOK : Int → Int → Prop}
  {nat : Int → Nat}
  {zeros : List Value → Int → List Value}
  {sadd : ByteArray → ByteArray → (ByteArray → Prop) → Prop}
  {eqAgg : TypeId → Array Value → Array Value → (Bool → Prop) → Prop}
  {cut : Nat → Int → Prop}
  {slc : TypeId → Value → Option Value → Option Value → Option Value → (Option Addr → Nat → Nat → Prop) → Prop}
  {sslc : TypeId → ByteArray → Option Value → Option Value → (ByteArray → Prop) → Prop}
  {strAt : ByteArray → Int → (Int → Prop) → Prop}
  {part : TypeId → Array Value → Nat → Value → Prop}
  {app : List TypeId → List Value → AHeap → (Option Addr → Nat → Nat → AHeap → Prop) → Prop}
  {cpy : List TypeId → List Value → AHeap → (Int → AHeap → Prop) → Prop}
  {putAt : AHeap → Nat → Nat → List Value → AHeap}
  {fresh : AHeap → AHeap}
  {lowered : AHeap → AHeap → AHeap}
  {bump : AHeap → Nat → AHeap}
  {wrote : AHeap → AHeap → Bool}
  {addN : Nat → Nat → Nat}
  {lt : Nat → Nat → Prop}
  {ne : Nat → Nat → Prop}
  {fpAll : Bool → Bool → Bool → Nat → Nat → Prop}
  {brk : (Unit → Prop) → Prop}
  {yn : Nat → Nat}
  {rng : FuncId → Nat → SS → (Exit → SS → Prop) → Prop}
  {mget : TypeId → Value → Value → AHeap → Value → Bool → Prop}
  {mput : TypeId → Value → Value → Value → AHeap → AHeap → Prop}
  {mnew : AHeap → AHeap}
  {bytes : TypeId → TypeId → Option Addr → Nat → AHeap → ByteArray → Prop}
  {clr : List TypeId → List Value → AHeap → AHeap → Prop}
  (hA : AOK progU hint prims ⟨call, head, arith, cmp, scmp, bnot, bsame, conv, neg, imax, imin, ofNat, slen, place, inR, nz, geZ, rd, wr, push, next, mkOK, nat, zeros, sadd, eqAgg, cut, slc, sslc, strAt, part, app, cpy, putAt, fresh, lowered, bump, wrote, addN, lt, ne, fpAll, brk, yn, rng, mget, mput, mnew, bytes, clr⟩)
include hA

theorem flux_loop {h : AHeap} {v0 v1 v8 v14 v15 : Value} {n : Int} {al : Option Addr} {kl cl : Nat} {l : List Comp} (hl : Log h al kl l) (hkl : (kl : Int) ≤ 1000) (hf : ∀ p ∈ l, 1 ≤ p.f) {cs : List Value} {Q : Exit → SS → Prop}
    (h1 : Q (.exit 0) ⟨[(0, v0), (1, v1), (7, .bool true), (8, v8), (11, .int .i64 n), (14, v14), (15, v15)], 1, [(0, cs)], h⟩) :
    ∀ i : Int, 0 ≤ i → i ≤ kl → head 8 13 1 ⟨[(0, v0), (1, v1), (7, .bool true), (8, v8), (9, .slice al kl cl), (11, .int .i64 n), (14, v14), (15, v15), (16, .int .i64 i)], 1, [(0, cs)], h⟩ Q := by
  have hll := hl.len
  refine countUp (fun i hi0 hin ih => ?_)
  refine hA.roundR Try.func8 r8_ok ?_; (try (conv => cbv)); repeat (refine brk_ok hA ?_; (try (conv => cbv)))
  refine br (i < kl) (by rw [e_lss hA, e_ofNat hA]) (fun c1 => ?_) (fun c1 => ?_) <;> (try (conv => cbv)) <;> repeat (refine brk_ok hA ?_; (try (conv => cbv)))
  · obtain ⟨b, o, x, y, f, hae, hb, hca, _, hrx, hry, hrf⟩ := hl.at hi0 c1
    refine ⟨b, o, hae, in_ok hA hi0 c1, ?_⟩
    ((try (conv => cbv)); repeat (refine brk_ok hA ?_; (try (conv => cbv))))
    refine ⟨f, rd_fld hA hrf, ?_⟩
    ((try (conv => cbv)); repeat (refine brk_ok hA ?_; (try (conv => cbv))))
    have hm : ca l i ∈ l := by
      unfold ca
      rw [List.getD, List.getElem?_eq_getElem (by omega)]
      exact List.getElem_mem _
    have := hf _ hm
    rw [hca] at this
    simp only [] at this
    refine br (f < 1) (by rw [e_lss hA]) (fun c2 => by omega) (fun c2 => ?_) <;> (try (conv => cbv)) <;> repeat (refine brk_ok hA ?_; (try (conv => cbv)))
    rw [add64 hA (by omega) (by omega)]
    exact ih c1
  · exact h1

theorem whole_inner {h0 : AHeap} {ai : Option Addr} {mi ci : Nat} {img : Grid} (hg : Img h0 ai mi img) {aL : Option Addr} {mL cL : Nat} {g : Grid} (hgl : Img h0 aL mL g) {aS : Option Addr} {mS cS : Nat} {s : Grid} (hsp : Img h0 aS mS s) {n : Int} (n1 : 1 ≤ n) (n8 : n ≤ 8) (hmi : (mi : Int) = n) (hmL : (mL : Int) = n) (hmS : (mS : Int) = n) (hsi : shp img n) (hsg : squareP g n 1000000000) (hss : squareP s n 1000000000)
    (law : ∀ y x : Int, 0 ≤ y → y < n → 0 ≤ x → x < n → cell g y x + cell s y x = cell img y x) {cs : List Value} {y : Int} (y0 : 0 ≤ y) (y1 : y < n) {Q : Exit → SS → Prop}
    (h1 : ∀ h', Ext h0 h' → Q (.exit 4) ⟨[(0, .slice ai mi ci), (7, .bool true), (8, .slice aL mL cL), (11, .int .i64 n), (17, .slice aS mS cS), (19, .int .i64 y)], 1, [(0, cs)], h'⟩) :
    ∀ x : Int, 0 ≤ x → x ≤ mi → ∀ h, Ext h0 h → head 8 28 1 ⟨[(0, .slice ai mi ci), (7, .bool true), (8, .slice aL mL cL), (11, .int .i64 n), (17, .slice aS mS cS), (19, .int .i64 y), (20, .int .i64 x)], 1, [(0, cs)], h⟩ Q := by
  refine countUp (fun x hx0 hxn ih h e => ?_)
  refine hA.roundR Try.func8 r8_ok ?_; (try (conv => cbv)); repeat (refine brk_ok hA ?_; (try (conv => cbv)))
  refine br (x < n) (by rw [e_lss hA]) (fun c1 => ?_) (fun c1 => ?_) <;> (try (conv => cbv)) <;> repeat (refine brk_ok hA ?_; (try (conv => cbv)))
  · obtain ⟨h9, hh9⟩ : ∃ z, z = bump h 23 := ⟨_, rfl⟩
    obtain ⟨nh, hnh⟩ : ∃ z, z = next h := ⟨_, rfl⟩
    have e9 : Ext h0 h9 := by rw [hh9, e_bump hA]; exact e.trans (.bump _ _)
    rw [← hh9, ← hnh]
    have lw := law y x y0 y1 hx0 c1
    have hri := hsi.2 y y0 y1
    have hrg := (squareP_shp hsg).2 y y0 y1
    have hrs := (squareP_shp hss).2 y y0 y1
    have bg := cellsN hsg y0 y1 hx0 c1
    have bs := cellsN hss y0 y1 hx0 c1
    obtain ⟨b, o, ra, rn, rc, hae, hbn, hrd, hrow, hrl⟩ := (hgl.ext e9).row y0 (by omega)
    obtain ⟨b2, o2, z, hae2, hb2, hz1, hrd2⟩ := hrow.at hx0 (by omega)
    have hzc : z = cell g y x := hz1
    refine ⟨b, o, hae, in_ok hA y0 (by omega), ?_⟩
    ((try (conv => cbv)); repeat (refine brk_ok hA ?_; (try (conv => cbv))))
    refine ⟨ra, rn, rc, rd_ok hA hrd, ?_⟩
    ((try (conv => cbv)); repeat (refine brk_ok hA ?_; (try (conv => cbv))))
    refine ⟨b2, o2, hae2, in_ok hA hx0 (by omega), ?_⟩
    ((try (conv => cbv)); repeat (refine brk_ok hA ?_; (try (conv => cbv))))
    refine ⟨z, rd_ok hA hrd2, ?_⟩
    ((try (conv => cbv)); repeat (refine brk_ok hA ?_; (try (conv => cbv))))
    obtain ⟨b', o', ra', rn', rc', hae', hbn', hrd', hrow', hrl'⟩ := (hsp.ext e9).row y0 (by omega)
    obtain ⟨b2', o2', z', hae2', hb2', hz1', hrd2'⟩ := hrow'.at hx0 (by omega)
    have hzc' : z' = cell s y x := hz1'
    refine ⟨b', o', hae', in_ok hA y0 (by omega), ?_⟩
    ((try (conv => cbv)); repeat (refine brk_ok hA ?_; (try (conv => cbv))))
    refine ⟨ra', rn', rc', rd_ok hA hrd', ?_⟩
    ((try (conv => cbv)); repeat (refine brk_ok hA ?_; (try (conv => cbv))))
    refine ⟨b2', o2', hae2', in_ok hA hx0 (by omega), ?_⟩
    ((try (conv => cbv)); repeat (refine brk_ok hA ?_; (try (conv => cbv))))
    refine ⟨z', rd_ok hA hrd2', ?_⟩
    ((try (conv => cbv)); repeat (refine brk_ok hA ?_; (try (conv => cbv))))
    obtain ⟨b'', o'', ra'', rn'', rc'', hae'', hbn'', hrd'', hrow'', hrl''⟩ := (hg.ext e9).row y0 (by omega)
    obtain ⟨b2'', o2'', z'', hae2'', hb2'', hz1'', hrd2''⟩ := hrow''.at hx0 (by omega)
    have hzc'' : z'' = cell img y x := hz1''
    refine ⟨b'', o'', hae'', in_ok hA y0 (by omega), ?_⟩
    ((try (conv => cbv)); repeat (refine brk_ok hA ?_; (try (conv => cbv))))
    refine ⟨ra'', rn'', rc'', rd_ok hA hrd'', ?_⟩
    ((try (conv => cbv)); repeat (refine brk_ok hA ?_; (try (conv => cbv))))
    refine ⟨b2'', o2'', hae2'', in_ok hA hx0 (by omega), ?_⟩
    ((try (conv => cbv)); repeat (refine brk_ok hA ?_; (try (conv => cbv))))
    refine ⟨z'', rd_ok hA hrd2'', ?_⟩
    ((try (conv => cbv)); repeat (refine brk_ok hA ?_; (try (conv => cbv))))
    have hs : arith .add .i64 z z' = z'' := by rw [add64 hA (by omega) (by omega)]; omega
    rw [hs]
    refine br (z'' ≠ z'') (by rw [e_neq hA]) (fun c3 => absurd rfl c3) (fun c3 => ?_) <;> (try (conv => cbv)) <;> repeat (refine brk_ok hA ?_; (try (conv => cbv)))
    rw [add64 hA (by omega) (by omega)]
    exact ih (by omega) h9 e9
  · exact h1 h e

theorem whole_outer {h0 : AHeap} {ai : Option Addr} {mi ci : Nat} {img : Grid} (hg : Img h0 ai mi img) {aL : Option Addr} {mL cL : Nat} {g : Grid} (hgl : Img h0 aL mL g) {aS : Option Addr} {mS cS : Nat} {s : Grid} (hsp : Img h0 aS mS s) {n : Int} (n1 : 1 ≤ n) (n8 : n ≤ 8) (hmi : (mi : Int) = n) (hmL : (mL : Int) = n) (hmS : (mS : Int) = n) (hsi : shp img n) (hsg : squareP g n 1000000000) (hss : squareP s n 1000000000)
    (law : ∀ y x : Int, 0 ≤ y → y < n → 0 ≤ x → x < n → cell g y x + cell s y x = cell img y x) {cs : List Value} {Q : Exit → SS → Prop}
    (h1 : ∀ h' kn K, Ext h0 h' → Q (.exit 2) ⟨[(7, .bool true)], kn, K, h'⟩) :
    ∀ y : Int, 0 ≤ y → y ≤ mi → ∀ h, Ext h0 h → head 8 25 1 ⟨[(0, .slice ai mi ci), (7, .bool true), (8, .slice aL mL cL), (11, .int .i64 n), (17, .slice aS mS cS), (19, .int .i64 y)], 1, [(0, cs)], h⟩ Q := by
  refine countUp (fun y hy0 hyn ih h e => ?_)
  refine hA.roundR Try.func8 r8_ok ?_; (try (conv => cbv)); repeat (refine brk_ok hA ?_; (try (conv => cbv)))
  refine br (y < n) (by rw [e_lss hA]) (fun c1 => ?_) (fun c1 => ?_) <;> (try (conv => cbv)) <;> repeat (refine brk_ok hA ?_; (try (conv => cbv)))
  · refine whole_inner hA hg hgl hsp n1 n8 hmi hmL hmS hsi hsg hss law hy0 c1 (fun h' e' => ?_) 0 (by omega) (by omega) h e
    ((try (conv => cbv)); repeat (refine brk_ok hA ?_; (try (conv => cbv))))
    rw [add64 hA (by omega) (by omega)]
    exact ih (by omega) h' e'
  · exact h1 h _ _ e

theorem logs_ok {h : AHeap} (hlow : h.low ≤ h.next) {a : Option Addr} {m k : Nat} {img : Grid} (hg : Img h a m img) (hm : (m : Int) ≤ 9223372036854775807) {ab : Option Addr} {mb kb : Nat} {bm : Grid} (hb : Img h ab mb bm) (hmb : (mb : Int) ≤ 9223372036854775807) (c : Cln) {Q : Value → AHeap → Prop}
    (hQ : ∀ h', Ext h h' → Q (.bool true) h') : call 8 [.slice a m k, .slice ab mb kb, .agg c.cells.toArray] h Q := by
  obtain ⟨num, den, floor, steps⟩ := c
  have hgl := hg.len
  have hbl := hb.len
  have bt : bnot true = false := by rw [e_bnot hA]; rfl
  have bf : bnot false = true := by rw [e_bnot hA]; rfl
  have c16 : cmp .eql 16 16 = true := by rw [e_eql hA]; rfl
  refine hA.bodyR Try.func8 r8_ok (show prims _ _ _ = none from rfl) hlow ?_; (try (conv => cbv)); repeat (refine brk_ok hA ?_; (try (conv => cbv)))
  refine alive_ok hA ⟨_, rfl, ?_⟩
  ((try (conv => cbv)); repeat (refine brk_ok hA ?_; (try (conv => cbv))))
  refine great_ok2 hA hlow hg hm (fun r hr => ⟨_, rfl, ?_⟩)
  ((try (conv => cbv)); repeat (refine brk_ok hA ?_; (try (conv => cbv))))
  cases r with
  | true =>
    ((try (conv => cbv)); repeat (refine brk_ok hA ?_; (try (conv => cbv))))
    exact hQ h (.refl _)
  | false =>
  ((try (conv => cbv)); repeat (refine brk_ok hA ?_; (try (conv => cbv))))
  refine great_ok2 hA hlow hb hmb (fun r2 hr2 => ⟨_, rfl, ?_⟩)
  ((try (conv => cbv)); repeat (refine brk_ok hA ?_; (try (conv => cbv))))
  cases r2 with
  | true =>
    ((try (conv => cbv)); repeat (refine brk_ok hA ?_; (try (conv => cbv))))
    exact hQ h (.refl _)
  | false =>
  ((try (conv => cbv)); repeat (refine brk_ok hA ?_; (try (conv => cbv))))
  refine rchk_ok hA hlow hg hb (c := ⟨num, den, floor, steps⟩) (fun e he => ⟨_, rfl, ?_⟩)
  ((try (conv => cbv)); repeat (refine brk_ok hA ?_; (try (conv => cbv))))
  refine br (e ≠ 0) (by rw [e_neq hA]) (fun c1 => ?_) (fun c1 => ?_) <;> (try (conv => cbv)) <;> repeat (refine brk_ok hA ?_; (try (conv => cbv)))
  · exact hQ h (.refl _)
  have he0 : e = 0 := by omega
  subst he0
  obtain ⟨hi, hbm, hcl⟩ := he.ok
  have hi1 := hi.1
  have hi2 := hi.2.1
  have hsq := hi.2.2
  have hb1 := hbm.1.1
  rw [bt]
  ((try (conv => cbv)); repeat (refine brk_ok hA ?_; (try (conv => cbv))))
  refine clean_is hA hlow hg hb (c := ⟨num, den, floor, steps⟩) (.inl rfl) (fun a2 m2 c2 al2 kl2 cl2 e2 h2 x2 p2 => ⟨_, _, _, _, _, _, _, rfl, ?_⟩)
  ((try (conv => cbv)); repeat (refine brk_ok hA ?_; (try (conv => cbv))))
  rcases p2.two he with ⟨rfl, hl0⟩ | ⟨rfl, g, l, hr, hi', hl'⟩
  · refine br (True) (by rw [e_neq hA]; rfl) (fun _ => ?_) (fun q => absurd trivial q) <;> (try (conv => cbv)) <;> repeat (refine brk_ok hA ?_; (try (conv => cbv)))
    rw [c16]
    ((try (conv => cbv)); repeat (refine brk_ok hA ?_; (try (conv => cbv))))
    have hk0 := hl0.len
    have : cmp .eql (ofNat kl2) 0 = true := by rw [e_eql hA, e_ofNat hA, ← hk0]; rfl
    rw [this]
    exact hQ h2 x2
  refine br (False) (by rw [e_neq hA]; rfl) (fun q => q.elim) (fun _ => ?_) <;> (try (conv => cbv)) <;> repeat (refine brk_ok hA ?_; (try (conv => cbv)))
  obtain ⟨s1, s2, s3⟩ := Runs.facts hbm hcl hi1 hr (square_more hsq (by omega)) _ _ rfl
  have c6 := hcl.2.2.2.2.2.1
  have c7 := hcl.2.2.2.2.2.2
  have hlog : logP img.length l := logP_of (by simp only [] at c7 s2; omega) (fun p hp => (s3 p hp).1)
  have hgl' := hi'.len
  have hs1 := s1.1
  have himg : imgP g 1000000000 := ⟨by omega, by omega, by rw [hs1]; exact s1⟩
  have hmo : ofNat m = (img.length : Int) := by rw [e_ofNat hA]; omega
  have hll := hl'.len
  simp only [] at c6 c7 s2
  have hfold := hr.folds _ _ rfl
  have hrep : RepIs img bm l 0 (some g) := .inr (.inr ⟨hi, hbm, hlog, _, hfold, .inr ⟨g, rfl, rfl, rfl⟩⟩)
  refine rep_is hA (x2.lowOK hlow) (hg.ext x2) (hb.ext x2) hl' (by omega) (.inl rfl) (fun a3 m3 c3 e3 h3 x3 p3 => ⟨_, _, _, _, rfl, ?_⟩)
  have y3 := x2.trans x3
  obtain ⟨r3, q3, i3, _⟩ := p3
  obtain ⟨rfl, rfl⟩ := q3.uniq hrep
  have i3 : Img h3 a3 m3 g := i3
  ((try (conv => cbv)); repeat (refine brk_ok hA ?_; (try (conv => cbv))))
  obtain ⟨n, hn⟩ : ∃ n : Int, n = img.length := ⟨_, rfl⟩
  rw [← hn] at hlog s1 hbm hsq hmo hs1 hi1 hi2 hr hfold
  rw [hmo]
  refine mod_is hA (y3.lowOK hlow) (hl'.ext x3) (by omega) (.inl rfl) (fun a4 m4 c4 e4 h4 x4 p4 => ⟨_, _, _, _, rfl, ?_⟩)
  have y4 := y3.trans x4
  have z4 := x3.trans x4
  ((try (conv => cbv)); repeat (refine brk_ok hA ?_; (try (conv => cbv))))
  refine br (False) (by rw [e_neq hA]; rfl) (fun q => q.elim) (fun _ => ?_) <;> (try (conv => cbv)) <;> repeat (refine brk_ok hA ?_; (try (conv => cbv)))
  refine same_ok hA (y4.lowOK hlow) (i3.ext x4) (hi'.ext z4) (by have := i3.len; omega) (fun y q1 q2 => by have := (squareP_shp s1).2 y q1 (by have := i3.len; omega); omega) (fun bb h5 x5 hbb => ⟨_, rfl, ?_⟩)
  obtain rfl : bb = true := hbb.2 rfl
  have y5 := y4.trans x5
  have z5 := z4.trans x5
  ((try (conv => cbv)); repeat (refine brk_ok hA ?_; (try (conv => cbv))))
  rw [bt]
  ((try (conv => cbv)); repeat (refine brk_ok hA ?_; (try (conv => cbv))))
  refine br (steps < kl2) (by rw [e_gtr hA, e_ofNat hA]) (fun c3 => by omega) (fun c3 => ?_) <;> (try (conv => cbv)) <;> repeat (refine brk_ok hA ?_; (try (conv => cbv)))
  refine rlog_ok hA (y5.lowOK hlow) (hl'.ext z5) (by omega) (n := n) (fun r6 hr6 => ⟨_, rfl, ?_⟩)
  obtain rfl : r6 = true := hr6.2 hlog
  ((try (conv => cbv)); repeat (refine brk_ok hA ?_; (try (conv => cbv))))
  rw [bt]
  ((try (conv => cbv)); repeat (refine brk_ok hA ?_; (try (conv => cbv))))
  refine rimg_ok hA (y5.lowOK hlow) (hi'.ext z5) (by omega) (by omega) (fun r7 hr7 => ⟨_, rfl, ?_⟩)
  obtain rfl : r7 = true := hr7.2 himg
  ((try (conv => cbv)); repeat (refine brk_ok hA ?_; (try (conv => cbv))))
  rw [bt]
  ((try (conv => cbv)); repeat (refine brk_ok hA ?_; (try (conv => cbv))))
  refine br ((m2 : Int) ≠ n) (by rw [e_neq hA, e_ofNat hA]) (fun c3 => by omega) (fun c3 => ?_) <;> (try (conv => cbv)) <;> repeat (refine brk_ok hA ?_; (try (conv => cbv)))
  refine flux_loop hA (hl'.ext z5) (by omega) (fun p hp => (s3 p hp).2) ?_ 0 (by omega) (by omega)
  ((try (conv => cbv)); repeat (refine brk_ok hA ?_; (try (conv => cbv))))
  obtain ⟨r4, q4, i4, _⟩ := p4
  rcases q4 with ⟨q, _⟩ | ⟨_, _, q, _⟩ | ⟨_, _, _, q, rfl, rfl⟩ | ⟨_, _, _, q, rfl, rfl⟩
  · exact absurd ⟨hi1, hi2⟩ q
  · exact absurd hlog q
  · refine br (True) (by rw [e_neq hA]; rfl) (fun _ => ?_) (fun q => absurd trivial q) <;> (try (conv => cbv)) <;> repeat (refine brk_ok hA ?_; (try (conv => cbv)))
    rw [c16]
    exact hQ h5 y5
  refine br (False) (by rw [e_neq hA]; rfl) (fun q => q.elim) (fun _ => ?_) <;> (try (conv => cbv)) <;> repeat (refine brk_ok hA ?_; (try (conv => cbv)))
  have i4 : Img h4 a4 m4 (mkG n (sums l l.length)) := i4
  have gs4 := mkG_shp (show 0 ≤ n by omega) (sums l l.length)
  have im4 : imgP (mkG n (sums l l.length)) 1000000000 := (mk_img hi1 hi2 _).2 q
  refine spr_is hA (y5.lowOK hlow) (i4.ext x5) (hb.ext y5) (.inl rfl) (fun a8 m8 c8 e8 h8 x8 p8 => ⟨_, _, _, _, rfl, ?_⟩)
  have y8 := y5.trans x8
  have z8 := z5.trans x8
  ((try (conv => cbv)); repeat (refine brk_ok hA ?_; (try (conv => cbv))))
  obtain ⟨r8, q8, i8, _⟩ := p8
  unfold SprIs at q8
  rw [gs4.1] at q8
  rcases q8 with ⟨q, _⟩ | ⟨_, q, _⟩ | ⟨_, _, q, rfl, rfl⟩ | ⟨_, _, q, rfl, rfl⟩
  · exact absurd im4 q
  · exact absurd hbm q
  · refine br (True) (by rw [e_neq hA]; rfl) (fun _ => ?_) (fun q => absurd trivial q) <;> (try (conv => cbv)) <;> repeat (refine brk_ok hA ?_; (try (conv => cbv)))
    rw [c16]
    exact hQ h8 y8
  refine br (False) (by rw [e_neq hA]; rfl) (fun q => q.elim) (fun _ => ?_) <;> (try (conv => cbv)) <;> repeat (refine brk_ok hA ?_; (try (conv => cbv)))
  have i8 : Img h8 a8 m8 (mkG n (convS (mkG n (sums l l.length)) bm n)) := i8
  have gs8 := mkG_shp (show 0 ≤ n by omega) (convS (mkG n (sums l l.length)) bm n)
  have im8 : imgP (mkG n (convS (mkG n (sums l l.length)) bm n)) 1000000000 := (mk_img hi1 hi2 _).2 q
  have hm8 : (m8 : Int) = n := by have := i8.len; have := gs8.1; omega
  refine br ((m8 : Int) ≠ n) (by rw [e_neq hA, e_ofNat hA]) (fun c3 => by omega) (fun c3 => ?_) <;> (try (conv => cbv)) <;> repeat (refine brk_ok hA ?_; (try (conv => cbv)))
  refine rimg_ok hA (y8.lowOK hlow) i8 (by omega) (by omega) (fun r9 hr9 => ⟨_, rfl, ?_⟩)
  obtain rfl : r9 = true := hr9.2 im8
  ((try (conv => cbv)); repeat (refine brk_ok hA ?_; (try (conv => cbv))))
  rw [bt]
  ((try (conv => cbv)); repeat (refine brk_ok hA ?_; (try (conv => cbv))))
  have sq8 : squareP (mkG n (convS (mkG n (sums l l.length)) bm n)) n 1000000000 := by have := im8.2.2; rw [gs8.1] at this; exact this
  refine whole_outer hA (hg.ext y8) (hi'.ext z8) i8 hi1 hi2 (by omega) (by omega) hm8 (squareP_shp hsq) s1 sq8 (fun y x y0 y1 x0 x1 => ?_) (fun h' kn K e' => ?_) 0 (by omega) (by omega) h8 (.refl _)
  · rw [mkG_cell _ y0 y1 x0 x1, conv_sums (by omega) (logP_mem hlog) y x l.length (Nat.le_refl _), List.take_length, hfold.cells g rfl y x y0 y1 x0 x1]
    omega
  · ((try (conv => cbv)); repeat (refine brk_ok hA ?_; (try (conv => cbv))))
    exact hQ h' (y8.trans e')

end Go.Proofs.Ytogofeppflindaa
