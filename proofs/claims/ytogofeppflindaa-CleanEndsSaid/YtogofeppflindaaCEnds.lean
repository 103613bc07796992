/-
  The law CleanEnds: its walk.
-/
import Derived.Test.YtogofeppflindaaCTwo
import Derived.Test.YtogofeppflindaaSeatL6
namespace Go.Proofs.Ytogofeppflindaa
open Go.Sim
set_option linter.unusedVariables false
set_option maxRecDepth 100000

theorem Log.take {h : AHeap} {a : Option Addr} {n : Nat} {l : List Comp} (p : Log h a n l) {j : Nat} (hj : j ≤ n) : Log h a j (l.take j) := by
  have hl := p.len
  have c := p.cells
  refine ⟨?_⟩
  have hfl : flatC (l.take j) = (flatC l).take (j * 3) := by
    have e : flatC l = flatC (l.take j) ++ flatC (l.drop j) := by unfold flatC; rw [← List.flatMap_append, List.take_append_drop]
    rw [e, List.take_left' (by rw [flatC_len]; simp; omega)]
  rw [hfl]
  cases a with
  | none =>
    obtain ⟨rfl, h2⟩ := c
    obtain rfl : j = 0 := by omega
    rw [h2]
    exact ⟨rfl, by simp⟩
  | some ad =>
    obtain ⟨h1, h2, h3⟩ := c
    refine ⟨h1, h2, ?_⟩
    unfold AHeap.readG at h3 ⊢
    rw [h1] at h3 ⊢
    simp only [] at h3 ⊢
    cases hc : h.cells? ad.block with
    | none => rw [hc] at h3; cases h3
    | some cs =>
      rw [hc] at h3
      simp only [] at h3 ⊢
      obtain ⟨q1, q2⟩ := readN_eq h3
      refine readN_some ?_ ?_
      · rw [← q1, List.take_take, Nat.min_eq_left (by omega)]
      · rw [List.length_take, flatC_len]; omega

variable {call : FuncId → List Value → AHeap → (Value → AHeap → Prop) → Prop}
  {head : FuncId → Nat → Nat → SS → (Exit → SS → Prop) → Prop}
  {arith : BinOp → IntKind → Int → Int → Int}
  {cmp : BinOp → Int → Int → Bool}
  {scmp : BinOp → ByteArray → ByteArray → Bool}
  {bnot : Bool → Bool}
  {bsame : Bool → Bool → Bool}
  {conv : IntKind → Int → Int}
  {neg : IntKind → Int → Int}
  {imax : Int → Int → Int}
  {imin : Int → Int → Int}
  {ofNat : Nat → Int}
  {slen : ByteArray → Int}
  {place : Nat → Int → Nat → Nat}
  {inR : Int → Nat → Prop}
  {nz : Int → Prop}
  {geZ : Int → Prop}
  {rd : AHeap → Nat → Nat → Nat → List Value → Prop}
  {wr : AHeap → Nat → Nat → List Value → AHeap → Prop}
  {push : AHeap → Nat → List Value → AHeap}
  {next : AHeap → Nat}
  {mkOK : Int → Int → Prop}
  {nat : Int → Nat}
  {zeros : List Value → Int → List Value}
  {sadd : ByteArray → ByteArray → (ByteArray → Prop) → Prop}
  {eqAgg : TypeId → Array Value → Array Value → (Bool → Prop) → Prop}
  {cut : Nat → Int → Prop}
  {slc : TypeId → Value → Option Value → Option Value → Option Value → (Option Addr → Nat → Nat → Prop) → Prop}
  {sslc : TypeId → ByteArray → Option Value → Option Value → (ByteArray → Prop) → Prop}
  {strAt : ByteArray → Int → (Int → Prop) → Prop}
  {part : TypeId → Array Value → Nat → Value → Prop}
  {app : List TypeId → List Value → AHeap → (Option Addr → Nat → Nat → AHeap → Prop) → Prop}
  {cpy : List TypeId → List Value → AHeap → (Int → AHeap → Prop) → Prop}
  {putAt : AHeap → Nat → Nat → List Value → AHeap}
  {fresh : AHeap → AHeap}
  {lowered : AHeap → AHeap → AHeap}
  {bump : AHeap → Nat → AHeap}
  {wrote : AHeap → AHeap → Bool}
  {addN : Nat → Nat → Nat}
  {lt : Nat → Nat → Prop}
  {ne : Nat → Nat → Prop}
  {fpAll : Bool → Bool → Bool → Nat → Nat → Prop}
  {brk : (Unit → Prop) → Prop}
  {yn : Nat → Nat}
  {rng : FuncId → Nat → SS → (Exit → SS → Prop) → Prop}
  {mget : TypeId → Value → Value → AHeap → Value → Bool → Prop}
  {mput : TypeId → Value → Value → Value → AHeap → AHeap → Prop}
  {mnew : AHeap → AHeap}
  {bytes : TypeId → TypeId → Option Addr → Nat → AHeap → ByteArray → Prop}
  {clr : List TypeId → List Value → AHeap → AHeap → Prop}
  (hA : AOK progU hint prims ⟨call, head, arith, cmp, scmp, bnot, bsame, conv, neg, imax, imin, ofNat, slen, place, inR, nz, geZ, rd, wr, push, next, mkOK, nat, zeros, sadd, eqAgg, cut, slc, sslc, strAt, part, app, cpy, putAt, fresh, lowered, bump, wrote, addN, lt, ne, fpAll, brk, yn, rng, mget, mput, mnew, bytes, clr⟩)
include hA

theorem top_inner {h : AHeap} {v0 v1 v6 v11 : Value} {aL : Option Addr} {mL cL : Nat} {g : Grid} (hg : Img h aL mL g) {n : Int} (n8 : n ≤ 8) (hmL : (mL : Int) = n) (hs : shp g n) {w : Int} (hw : ∀ y x : Int, 0 ≤ y → y < n → 0 ≤ x → x < n → cell g y x ≤ w) {K : List (Nat × List Value)} {y : Int} (y0 : 0 ≤ y) (y1 : y < n) {Q : Exit → SS → Prop}
    (h1 : Q (.exit 2) ⟨[(0, v0), (1, v1), (6, v6), (9, .bool true), (10, .slice aL mL cL), (11, v11), (19, .int .i64 w), (21, .int .i64 y)], 2, K, h⟩) :
    ∀ x : Int, 0 ≤ x → x ≤ mL → head 6 19 2 ⟨[(0, v0), (1, v1), (6, v6), (9, .bool true), (10, .slice aL mL cL), (11, v11), (19, .int .i64 w), (21, .int .i64 y), (22, .int .i64 x)], 2, K, h⟩ Q := by
  refine countUp (fun x hx0 hxn ih => ?_)
  refine hA.roundR Try.func6 r6_ok ?_; (try (conv => cbv)); repeat (refine brk_ok hA ?_; (try (conv => cbv)))
  refine br (x < mL) (by rw [e_lss hA, e_ofNat hA]) (fun c1 => ?_) (fun c1 => ?_) <;> (try (conv => cbv)) <;> repeat (refine brk_ok hA ?_; (try (conv => cbv)))
  · have hr := hs.2 y y0 y1
    obtain ⟨b, o, ra, rn, rc, hae, hbn, hrd, hrow, hrl⟩ := hg.row y0 (by omega)
    obtain ⟨b2, o2, z, hae2, hb2, hz1, hrd2⟩ := hrow.at hx0 (by omega)
    have hzc : z = cell g y x := hz1
    refine ⟨b, o, hae, in_ok hA y0 (by omega), ?_⟩
    ((try (conv => cbv)); repeat (refine brk_ok hA ?_; (try (conv => cbv))))
    refine ⟨ra, rn, rc, rd_ok hA hrd, ?_⟩
    ((try (conv => cbv)); repeat (refine brk_ok hA ?_; (try (conv => cbv))))
    refine ⟨b2, o2, hae2, in_ok hA hx0 (by omega), ?_⟩
    ((try (conv => cbv)); repeat (refine brk_ok hA ?_; (try (conv => cbv))))
    refine ⟨z, rd_ok hA hrd2, ?_⟩
    ((try (conv => cbv)); repeat (refine brk_ok hA ?_; (try (conv => cbv))))
    have := hw y x y0 y1 hx0 (by omega)
    refine br (w < z) (by rw [e_gtr hA]) (fun c2 => by omega) (fun c2 => ?_) <;> (try (conv => cbv)) <;> repeat (refine brk_ok hA ?_; (try (conv => cbv)))
    rw [add64 hA (by omega) (by omega)]
    exact ih c1
  · exact h1
theorem top_outer {h : AHeap} {v0 v1 v6 v11 : Value} {aL : Option Addr} {mL cL : Nat} {g : Grid} (hg : Img h aL mL g) {n : Int} (n8 : n ≤ 8) (hmL : (mL : Int) = n) (hs : shp g n) {w : Int} (hw : ∀ y x : Int, 0 ≤ y → y < n → 0 ≤ x → x < n → cell g y x ≤ w) {K : List (Nat × List Value)} {Q : Exit → SS → Prop}
    (h1 : Q (.exit 0) ⟨[(0, v0), (1, v1), (6, v6), (9, .bool true), (11, v11), (19, .int .i64 w)], 2, K, h⟩) :
    ∀ y : Int, 0 ≤ y → y ≤ mL → head 6 16 2 ⟨[(0, v0), (1, v1), (6, v6), (9, .bool true), (10, .slice aL mL cL), (11, v11), (19, .int .i64 w), (21, .int .i64 y)], 2, K, h⟩ Q := by
  refine countUp (fun y hy0 hyn ih => ?_)
  refine hA.roundR Try.func6 r6_ok ?_; (try (conv => cbv)); repeat (refine brk_ok hA ?_; (try (conv => cbv)))
  refine br (y < mL) (by rw [e_lss hA, e_ofNat hA]) (fun c1 => ?_) (fun c1 => ?_) <;> (try (conv => cbv)) <;> repeat (refine brk_ok hA ?_; (try (conv => cbv)))
  · refine top_inner hA hg n8 hmL hs hw hy0 (by omega) ?_ 0 (by omega) (by omega)
    ((try (conv => cbv)); repeat (refine brk_ok hA ?_; (try (conv => cbv))))
    rw [add64 hA (by omega) (by omega)]
    exact ih c1
  · exact h1

theorem ends_ok {h : AHeap} (hlow : h.low ≤ h.next) {a : Option Addr} {m k : Nat} {img : Grid} (hg : Img h a m img) (hm : (m : Int) ≤ 9223372036854775807) {ab : Option Addr} {mb kb : Nat} {bm : Grid} (hb : Img h ab mb bm) (hmb : (mb : Int) ≤ 9223372036854775807) (c : Cln) (less : Int) {Q : Value → AHeap → Prop}
    (hQ : ∀ h', Ext h h' → Q (.bool true) h') : call 6 [.slice a m k, .slice ab mb kb, .agg c.cells.toArray, .int .i64 less] h Q := by
  obtain ⟨num, den, floor, steps⟩ := c
  have hgl := hg.len
  have hbl := hb.len
  have bt : bnot true = false := by rw [e_bnot hA]; rfl
  have bf : bnot false = true := by rw [e_bnot hA]; rfl
  have c16 : cmp .eql 16 16 = true := by rw [e_eql hA]; rfl
  refine hA.bodyR Try.func6 r6_ok (show prims _ _ _ = none from rfl) hlow ?_; (try (conv => cbv)); repeat (refine brk_ok hA ?_; (try (conv => cbv)))
  refine alive_ok hA ⟨_, rfl, ?_⟩
  ((try (conv => cbv)); repeat (refine brk_ok hA ?_; (try (conv => cbv))))
  refine great_ok2 hA hlow hg hm (fun r hr => ⟨_, rfl, ?_⟩)
  ((try (conv => cbv)); repeat (refine brk_ok hA ?_; (try (conv => cbv))))
  cases r with
  | true =>
    ((try (conv => cbv)); repeat (refine brk_ok hA ?_; (try (conv => cbv))))
    exact hQ h (.refl _)
  | false =>
  ((try (conv => cbv)); repeat (refine brk_ok hA ?_; (try (conv => cbv))))
  refine great_ok2 hA hlow hb hmb (fun r2 hr2 => ⟨_, rfl, ?_⟩)
  ((try (conv => cbv)); repeat (refine brk_ok hA ?_; (try (conv => cbv))))
  cases r2 with
  | true =>
    ((try (conv => cbv)); repeat (refine brk_ok hA ?_; (try (conv => cbv))))
    exact hQ h (.refl _)
  | false =>
  ((try (conv => cbv)); repeat (refine brk_ok hA ?_; (try (conv => cbv))))
  refine rchk_ok hA hlow hg hb (c := ⟨num, den, floor, steps⟩) (fun e he => ⟨_, rfl, ?_⟩)
  ((try (conv => cbv)); repeat (refine brk_ok hA ?_; (try (conv => cbv))))
  refine br (e ≠ 0) (by rw [e_neq hA]) (fun c1 => ?_) (fun c1 => ?_) <;> (try (conv => cbv)) <;> repeat (refine brk_ok hA ?_; (try (conv => cbv)))
  · exact hQ h (.refl _)
  have he0 : e = 0 := by omega
  subst he0
  refine br (less < 0) (by rw [e_lss hA]) (fun c2 => ?_) (fun c2 => ?_) <;> (try (conv => cbv)) <;> repeat (refine brk_ok hA ?_; (try (conv => cbv)))
  · exact hQ h (.refl _)
  refine br (steps < less) (by rw [e_gtr hA]) (fun c3 => ?_) (fun c3 => ?_) <;> (try (conv => cbv)) <;> repeat (refine brk_ok hA ?_; (try (conv => cbv)))
  · exact hQ h (.refl _)
  obtain ⟨hi, hbm, hcl⟩ := he.ok
  have hi1 := hi.1
  have hi2 := hi.2.1
  have hsq := hi.2.2
  have hb1 := hbm.1.1
  rw [bt]
  ((try (conv => cbv)); repeat (refine brk_ok hA ?_; (try (conv => cbv))))
  refine clean_is2 hA hlow hg hb (c := ⟨num, den, floor, steps⟩) (.inl rfl) (fun a2 m2 c2 al2 kl2 cl2 e2 h2 x2 p2 cap2 => ⟨_, _, _, _, _, _, _, rfl, ?_⟩)
  have cap2 := cap2 rfl
  ((try (conv => cbv)); repeat (refine brk_ok hA ?_; (try (conv => cbv))))
  have he' : ChkIs img bm ⟨num, den, floor, less⟩ 0 := .inr (.inr ⟨hi, hbm, ⟨hcl.1, hcl.2.1, hcl.2.2.1, hcl.2.2.2.1, hcl.2.2.2.2.1, by simp only []; omega, by have := hcl.2.2.2.2.2.2; simp only [] at this ⊢; omega⟩, rfl⟩)
  refine clean_is hA (x2.lowOK hlow) (hg.ext x2) (hb.ext x2) (c := ⟨num, den, floor, less⟩) (.inl rfl) (fun a3 m3 c3 al3 kl3 cl3 e3 h3 x3 p3 => ⟨_, _, _, _, _, _, _, rfl, ?_⟩)
  have y3 := x2.trans x3
  ((try (conv => cbv)); repeat (refine brk_ok hA ?_; (try (conv => cbv))))
  rcases p2.two he with ⟨rfl, hl0⟩ | ⟨rfl, g, l, hr, hi', hl'⟩
  · refine br (True) (by rw [e_neq hA]; rfl) (fun _ => ?_) (fun q => absurd trivial q) <;> (try (conv => cbv)) <;> repeat (refine brk_ok hA ?_; (try (conv => cbv)))
    rw [c16]
    ((try (conv => cbv)); repeat (refine brk_ok hA ?_; (try (conv => cbv))))
    rcases p3.two he' with ⟨rfl, _⟩ | ⟨rfl, _⟩
    · refine br (False) (by rw [e_eql hA]; rfl) (fun q => q.elim) (fun _ => ?_) <;> (try (conv => cbv)) <;> repeat (refine brk_ok hA ?_; (try (conv => cbv)))
      rw [c16]
      exact hQ h3 y3
    · refine br (True) (by rw [e_eql hA]; rfl) (fun _ => ?_) (fun q => absurd trivial q) <;> (try (conv => cbv)) <;> repeat (refine brk_ok hA ?_; (try (conv => cbv)))
      exact hQ h3 y3
  refine br (False) (by rw [e_neq hA]; rfl) (fun q => q.elim) (fun _ => ?_) <;> (try (conv => cbv)) <;> repeat (refine brk_ok hA ?_; (try (conv => cbv)))
  obtain ⟨s1, s2, s3⟩ := Runs.facts hbm hcl hi1 hr (square_more hsq (by omega)) _ _ rfl
  have c6 := hcl.2.2.2.2.2.1
  have c7 := hcl.2.2.2.2.2.2
  have hgl' := hi'.len
  have hs1 := s1.1
  have himg : imgP g 1000000000 := ⟨by omega, by omega, by rw [hs1]; exact s1⟩
  have hll := hl'.len
  simp only [] at c6 c7 s2
  obtain ⟨g2, hr2', hsame⟩ := hr.less _ _ rfl less.toNat (by simp only []; omega)
  have hr2'' : Runs bm img.length ⟨num, den, floor, less⟩ less.toNat img (some (g2, l.take less.toNat)) := Runs.cong (c := ⟨num, den, floor, steps⟩) (c' := ⟨num, den, floor, less⟩) rfl rfl rfl hr2'
  obtain ⟨t1, t2, t3⟩ := Runs.facts hbm hcl hi1 hr2' (square_more hsq (by omega)) _ _ rfl
  rcases p3.two he' with ⟨rfl, _⟩ | ⟨rfl, g3, l3, hr3, hi3, hl3⟩
  · obtain ⟨r, q1, _⟩ := p3
    have := q1.uniq (.inr (.inr ⟨he', _, hr2'', rfl, rfl⟩))
    cases this.1
  have hg3 := hr3.uniq hr2''
  simp only [Option.some.injEq, Prod.mk.injEq] at hg3
  obtain ⟨rfl, rfl⟩ := hg3
  refine br (False) (by rw [e_neq hA]; rfl) (fun q => q.elim) (fun _ => ?_) <;> (try (conv => cbv)) <;> repeat (refine brk_ok hA ?_; (try (conv => cbv)))
  have hll3 := hl3.len
  have hk3 : (kl3 : Int) = imin less (ofNat kl2) := by
    rw [e_imin hA, e_ofNat hA]
    rw [List.length_take] at hll3
    split <;> omega
  refine br ((kl3 : Int) ≠ imin less (ofNat kl2)) (by rw [e_neq hA, e_ofNat hA kl3]) (fun q => absurd hk3 q) (fun _ => ?_) <;> (try (conv => cbv)) <;> repeat (refine brk_ok hA ?_; (try (conv => cbv)))
  refine ⟨by rw [e_cut hA, e_ofNat hA]; rw [List.length_take] at hll3; omega, ?_⟩
  have hno : nat (ofNat kl3) = kl3 := by rw [e_nat hA, e_ofNat hA, Int.toNat_natCast]
  ((try (conv => cbv)); repeat (refine brk_ok hA ?_; (try (conv => cbv))))
  rw [hno]
  have hlt : Log h2 al2 kl3 (l.take kl3) := hl'.take (by rw [List.length_take] at hll3; omega)
  have hte : l.take kl3 = l.take less.toNat := by
    rw [← hll3, List.length_take]
    by_cases q : less.toNat ≤ l.length
    · rw [Nat.min_eq_left q]
    · rw [Nat.min_eq_right (by omega), List.take_length, List.take_of_length_le (by omega)]
  rw [hte] at hlt
  refine samelog_ok hA (y3.lowOK hlow) (by rw [List.length_take] at hll3; omega) (hlt.ext x3) hl3 (fun r4 h4 x4 hr4 => ⟨_, rfl, ?_⟩)
  obtain rfl : r4 = true := hr4.2 rfl
  have y4 := y3.trans x4
  ((try (conv => cbv)); repeat (refine brk_ok hA ?_; (try (conv => cbv))))
  rw [bt]
  ((try (conv => cbv)); repeat (refine brk_ok hA ?_; (try (conv => cbv))))
  have z4 := x3.trans x4
  refine br ((kl3 : Int) = kl2) (by rw [e_eql hA, e_ofNat hA, e_ofNat hA]) (fun d0 => ?_) (fun d0 => ?_) <;> (try (conv => cbv)) <;> repeat (refine brk_ok hA ?_; (try (conv => cbv)))
  · have hgg : g3 = g := hsame (by rw [List.length_take] at hll3; omega)
    subst hgg
    refine same_ok hA (y4.lowOK hlow) (hi3.ext x4) (hi'.ext z4) (by have := hi3.len; omega) (fun y q1 q2 => by have := (squareP_shp s1).2 y q1 (by have := hi3.len; omega); omega) (fun bb h5 x5 hbb => ⟨_, rfl, ?_⟩)
    obtain rfl : bb = true := hbb.2 rfl
    have y5 := y4.trans x5
    have z5 := z4.trans x5
    ((try (conv => cbv)); repeat (refine brk_ok hA ?_; (try (conv => cbv))))
    rw [bt]
    ((try (conv => cbv)); repeat (refine brk_ok hA ?_; (try (conv => cbv))))
    refine peak_ok hA (y5.lowOK hlow) (hi'.ext z5) (fun x y v e pk => ⟨_, _, _, _, rfl, ?_⟩)
    rcases pk with ⟨q, _⟩ | ⟨_, tp, hv, rfl⟩
    · exact absurd himg q
    rw [hs1] at tp
    have u1 := tp.x0; have u2 := tp.x1; have u3 := tp.y0; have u4 := tp.y1
    ((try (conv => cbv)); repeat (refine brk_ok hA ?_; (try (conv => cbv))))
    refine br (False) (by rw [e_neq hA]; rfl) (fun q => q.elim) (fun _ => ?_) <;> (try (conv => cbv)) <;> repeat (refine brk_ok hA ?_; (try (conv => cbv)))
    refine rimg_ok hA (y5.lowOK hlow) (hi'.ext z5) (by omega) (by omega) (fun r7 hr7 => ⟨_, rfl, ?_⟩)
    obtain rfl : r7 = true := hr7.2 himg
    ((try (conv => cbv)); repeat (refine brk_ok hA ?_; (try (conv => cbv))))
    rw [bt]
    ((try (conv => cbv)); repeat (refine brk_ok hA ?_; (try (conv => cbv))))
    refine br (x < 0) (by rw [e_lss hA]) (fun q => by omega) (fun _ => ?_) <;> (try (conv => cbv)) <;> repeat (refine brk_ok hA ?_; (try (conv => cbv)))
    refine br ((m2 : Int) ≤ x) (by rw [e_geq hA, e_ofNat hA]) (fun q => by omega) (fun _ => ?_) <;> (try (conv => cbv)) <;> repeat (refine brk_ok hA ?_; (try (conv => cbv)))
    refine br (y < 0) (by rw [e_lss hA]) (fun q => by omega) (fun _ => ?_) <;> (try (conv => cbv)) <;> repeat (refine brk_ok hA ?_; (try (conv => cbv)))
    refine br ((m2 : Int) ≤ y) (by rw [e_geq hA, e_ofNat hA]) (fun q => by omega) (fun _ => ?_) <;> (try (conv => cbv)) <;> repeat (refine brk_ok hA ?_; (try (conv => cbv)))
    have hry := (squareP_shp s1).2 y u3 u4
    obtain ⟨b, o, ra, rn, rc, hae, hbn, hrd, hrow, hrl⟩ := (hi'.ext z5).row u3 (by omega)
    obtain ⟨b2, o2, z, hae2, hb2, hz1, hrd2⟩ := hrow.at u1 (by omega)
    have hzc : z = v := by rw [hv]; exact hz1
    subst hzc
    refine ⟨b, o, hae, in_ok hA u3 (by omega), ?_⟩
    ((try (conv => cbv)); repeat (refine brk_ok hA ?_; (try (conv => cbv))))
    refine ⟨ra, rn, rc, rd_ok hA hrd, ?_⟩
    ((try (conv => cbv)); repeat (refine brk_ok hA ?_; (try (conv => cbv))))
    refine ⟨b2, o2, hae2, in_ok hA u1 (by omega), ?_⟩
    ((try (conv => cbv)); repeat (refine brk_ok hA ?_; (try (conv => cbv))))
    refine ⟨z, rd_ok hA hrd2, ?_⟩
    ((try (conv => cbv)); repeat (refine brk_ok hA ?_; (try (conv => cbv))))
    refine br (z ≠ z) (by rw [e_neq hA]) (fun q => absurd rfl q) (fun _ => ?_) <;> (try (conv => cbv)) <;> repeat (refine brk_ok hA ?_; (try (conv => cbv)))
    refine top_outer hA (hi'.ext z5) hi2 (by omega) (squareP_shp s1) (fun y' x' q1 q2 q3 q4 => by rw [hv]; exact tp.most y' x' q1 q2 q3 q4 (by unfold before; omega)) ?_ 0 (by omega) (by omega)
    ((try (conv => cbv)); repeat (refine brk_ok hA ?_; (try (conv => cbv))))
    obtain ⟨h9, hh9⟩ : ∃ v, v = bump h5 34 := ⟨_, rfl⟩
    obtain ⟨nh, hnh⟩ : ∃ v, v = next h5 := ⟨_, rfl⟩
    have e9 : Ext h h9 := by rw [hh9, e_bump hA]; exact y5.trans (.bump _ _)
    rw [← hh9]
    refine br ((kl2 : Int) = steps) (by rw [e_eql hA, e_ofNat hA]) (fun _ => ?_) (fun d1 => ?_) <;> (try (conv => cbv)) <;> repeat (refine brk_ok hA ?_; (try (conv => cbv)))
    · exact hQ h9 e9
    refine br (z < floor) (by rw [e_lss hA]) (fun _ => ?_) (fun d2 => ?_) <;> (try (conv => cbv)) <;> repeat (refine brk_ok hA ?_; (try (conv => cbv)))
    · exact hQ h9 e9
    rw [← hnh]
    have hmo : ofNat m = (img.length : Int) := by rw [e_ofNat hA]; omega
    rw [hmo]
    have hzb := (cellsN s1 u3 u4 u1 u2).2
    rw [← hv] at hzb
    have hlast : z * num < den * cell bm (img.length - 1) (img.length - 1) := by
      rcases hr.ends _ _ rfl with q | ⟨x', y', tp', lw⟩
      · simp only [] at q; omega
      obtain ⟨rfl, rfl⟩ := tp.uniq tp'
      unfold lowP at lw
      rw [← hv] at lw
      rcases lw with q | q
      · exact absurd q d2
      obtain ⟨f1, f2, f3, f4, f5, f6⟩ := flux_in hbm hcl hi1 (b := z) (by have := hcl.2.2.2.1; simp only [] at this; omega) hzb
      unfold flux at q
      simp only [] at q f1 f3
      rcases Int.lt_or_le (z * num) (den * cell bm (img.length - 1) (img.length - 1)) with w | w
      · exact w
      · have := Int.le_ediv_of_mul_le (a := 1) f3 (by rw [Int.one_mul]; exact w)
        omega
    obtain ⟨f1, f2, f3, f4, f5, f6⟩ := flux_in hbm hcl hi1 (b := z) (by have := hcl.2.2.2.1; simp only [] at this; omega) hzb
    simp only [] at f1 f2 f3 f4
    obtain ⟨n, hn⟩ : ∃ n : Int, n = img.length := ⟨_, rfl⟩
    rw [← hn] at f3 f4 hlast hbm hb1 hi1 hi2 ⊢
    obtain ⟨cz, hcz⟩ : ∃ v, v = cell bm (n - 1) (n - 1) := ⟨_, rfl⟩
    rw [← hcz] at f3 f4 hlast
    have e3 : arith .sub .i64 n 1 = n - 1 := sub64 hA (by omega) (by omega)
    rw [e3]
    have hq2 := (hbm.1.2 (n - 1) (by omega) (by omega)).1
    obtain ⟨b8, o8, ra8, rn8, rc8, hae8, hbn8, hrd8, hrow8, hrl8⟩ := (hb.ext e9).row (i := n - 1) (by omega) (by omega)
    refine ⟨b8, o8, hae8, in_ok hA (by omega) (by omega), ?_⟩
    ((try (conv => cbv)); repeat (refine brk_ok hA ?_; (try (conv => cbv))))
    refine ⟨ra8, rn8, rc8, rd_ok hA hrd8, ?_⟩
    ((try (conv => cbv)); repeat (refine brk_ok hA ?_; (try (conv => cbv))))
    obtain ⟨b9, o9, z9, hae9, hb9, hz9, hrd9⟩ := hrow8.at (i := n - 1) (by omega) (by omega)
    have hz9' : z9 = cz := by rw [hcz]; exact hz9
    subst hz9'
    rw [e3]
    refine ⟨b9, o9, hae9, in_ok hA (by omega) (by omega), ?_⟩
    ((try (conv => cbv)); repeat (refine brk_ok hA ?_; (try (conv => cbv))))
    refine ⟨z9, rd_ok hA hrd9, ?_⟩
    ((try (conv => cbv)); repeat (refine brk_ok hA ?_; (try (conv => cbv))))
    have w1 : arith .mul .i64 z num = z * num := mul64 hA (by omega) (by omega)
    have w2 : arith .mul .i64 den z9 = den * z9 := mul64 hA (by omega) (by omega)
    have w3 : cmp .lss (z * num) (den * z9) = true := by rw [e_lss hA]; exact decide_eq_true hlast
    rw [w1, w2, w3]
    exact hQ h9 e9
  · obtain ⟨h5, hh5⟩ : ∃ v, v = h4 := ⟨_, rfl⟩
    have y5 : Ext h h5 := by rw [hh5]; exact y4
    have z5 : Ext h2 h5 := by rw [hh5]; exact z4
    rw [← hh5]
    refine peak_ok hA (y5.lowOK hlow) (hi'.ext z5) (fun x y v e pk => ⟨_, _, _, _, rfl, ?_⟩)
    rcases pk with ⟨q, _⟩ | ⟨_, tp, hv, rfl⟩
    · exact absurd himg q
    rw [hs1] at tp
    have u1 := tp.x0; have u2 := tp.x1; have u3 := tp.y0; have u4 := tp.y1
    ((try (conv => cbv)); repeat (refine brk_ok hA ?_; (try (conv => cbv))))
    refine br (False) (by rw [e_neq hA]; rfl) (fun q => q.elim) (fun _ => ?_) <;> (try (conv => cbv)) <;> repeat (refine brk_ok hA ?_; (try (conv => cbv)))
    refine rimg_ok hA (y5.lowOK hlow) (hi'.ext z5) (by omega) (by omega) (fun r7 hr7 => ⟨_, rfl, ?_⟩)
    obtain rfl : r7 = true := hr7.2 himg
    ((try (conv => cbv)); repeat (refine brk_ok hA ?_; (try (conv => cbv))))
    rw [bt]
    ((try (conv => cbv)); repeat (refine brk_ok hA ?_; (try (conv => cbv))))
    refine br (x < 0) (by rw [e_lss hA]) (fun q => by omega) (fun _ => ?_) <;> (try (conv => cbv)) <;> repeat (refine brk_ok hA ?_; (try (conv => cbv)))
    refine br ((m2 : Int) ≤ x) (by rw [e_geq hA, e_ofNat hA]) (fun q => by omega) (fun _ => ?_) <;> (try (conv => cbv)) <;> repeat (refine brk_ok hA ?_; (try (conv => cbv)))
    refine br (y < 0) (by rw [e_lss hA]) (fun q => by omega) (fun _ => ?_) <;> (try (conv => cbv)) <;> repeat (refine brk_ok hA ?_; (try (conv => cbv)))
    refine br ((m2 : Int) ≤ y) (by rw [e_geq hA, e_ofNat hA]) (fun q => by omega) (fun _ => ?_) <;> (try (conv => cbv)) <;> repeat (refine brk_ok hA ?_; (try (conv => cbv)))
    have hry := (squareP_shp s1).2 y u3 u4
    obtain ⟨b, o, ra, rn, rc, hae, hbn, hrd, hrow, hrl⟩ := (hi'.ext z5).row u3 (by omega)
    obtain ⟨b2, o2, z, hae2, hb2, hz1, hrd2⟩ := hrow.at u1 (by omega)
    have hzc : z = v := by rw [hv]; exact hz1
    subst hzc
    refine ⟨b, o, hae, in_ok hA u3 (by omega), ?_⟩
    ((try (conv => cbv)); repeat (refine brk_ok hA ?_; (try (conv => cbv))))
    refine ⟨ra, rn, rc, rd_ok hA hrd, ?_⟩
    ((try (conv => cbv)); repeat (refine brk_ok hA ?_; (try (conv => cbv))))
    refine ⟨b2, o2, hae2, in_ok hA u1 (by omega), ?_⟩
    ((try (conv => cbv)); repeat (refine brk_ok hA ?_; (try (conv => cbv))))
    refine ⟨z, rd_ok hA hrd2, ?_⟩
    ((try (conv => cbv)); repeat (refine brk_ok hA ?_; (try (conv => cbv))))
    refine br (z ≠ z) (by rw [e_neq hA]) (fun q => absurd rfl q) (fun _ => ?_) <;> (try (conv => cbv)) <;> repeat (refine brk_ok hA ?_; (try (conv => cbv)))
    refine top_outer hA (hi'.ext z5) hi2 (by omega) (squareP_shp s1) (fun y' x' q1 q2 q3 q4 => by rw [hv]; exact tp.most y' x' q1 q2 q3 q4 (by unfold before; omega)) ?_ 0 (by omega) (by omega)
    ((try (conv => cbv)); repeat (refine brk_ok hA ?_; (try (conv => cbv))))
    obtain ⟨h9, hh9⟩ : ∃ v, v = bump h5 34 := ⟨_, rfl⟩
    obtain ⟨nh, hnh⟩ : ∃ v, v = next h5 := ⟨_, rfl⟩
    have e9 : Ext h h9 := by rw [hh9, e_bump hA]; exact y5.trans (.bump _ _)
    rw [← hh9]
    refine br ((kl2 : Int) = steps) (by rw [e_eql hA, e_ofNat hA]) (fun _ => ?_) (fun d1 => ?_) <;> (try (conv => cbv)) <;> repeat (refine brk_ok hA ?_; (try (conv => cbv)))
    · exact hQ h9 e9
    refine br (z < floor) (by rw [e_lss hA]) (fun _ => ?_) (fun d2 => ?_) <;> (try (conv => cbv)) <;> repeat (refine brk_ok hA ?_; (try (conv => cbv)))
    · exact hQ h9 e9
    rw [← hnh]
    have hmo : ofNat m = (img.length : Int) := by rw [e_ofNat hA]; omega
    rw [hmo]
    have hzb := (cellsN s1 u3 u4 u1 u2).2
    rw [← hv] at hzb
    have hlast : z * num < den * cell bm (img.length - 1) (img.length - 1) := by
      rcases hr.ends _ _ rfl with q | ⟨x', y', tp', lw⟩
      · simp only [] at q; omega
      obtain ⟨rfl, rfl⟩ := tp.uniq tp'
      unfold lowP at lw
      rw [← hv] at lw
      rcases lw with q | q
      · exact absurd q d2
      obtain ⟨f1, f2, f3, f4, f5, f6⟩ := flux_in hbm hcl hi1 (b := z) (by have := hcl.2.2.2.1; simp only [] at this; omega) hzb
      unfold flux at q
      simp only [] at q f1 f3
      rcases Int.lt_or_le (z * num) (den * cell bm (img.length - 1) (img.length - 1)) with w | w
      · exact w
      · have := Int.le_ediv_of_mul_le (a := 1) f3 (by rw [Int.one_mul]; exact w)
        omega
    obtain ⟨f1, f2, f3, f4, f5, f6⟩ := flux_in hbm hcl hi1 (b := z) (by have := hcl.2.2.2.1; simp only [] at this; omega) hzb
    simp only [] at f1 f2 f3 f4
    obtain ⟨n, hn⟩ : ∃ n : Int, n = img.length := ⟨_, rfl⟩
    rw [← hn] at f3 f4 hlast hbm hb1 hi1 hi2 ⊢
    obtain ⟨cz, hcz⟩ : ∃ v, v = cell bm (n - 1) (n - 1) := ⟨_, rfl⟩
    rw [← hcz] at f3 f4 hlast
    have e3 : arith .sub .i64 n 1 = n - 1 := sub64 hA (by omega) (by omega)
    rw [e3]
    have hq2 := (hbm.1.2 (n - 1) (by omega) (by omega)).1
    obtain ⟨b8, o8, ra8, rn8, rc8, hae8, hbn8, hrd8, hrow8, hrl8⟩ := (hb.ext e9).row (i := n - 1) (by omega) (by omega)
    refine ⟨b8, o8, hae8, in_ok hA (by omega) (by omega), ?_⟩
    ((try (conv => cbv)); repeat (refine brk_ok hA ?_; (try (conv => cbv))))
    refine ⟨ra8, rn8, rc8, rd_ok hA hrd8, ?_⟩
    ((try (conv => cbv)); repeat (refine brk_ok hA ?_; (try (conv => cbv))))
    obtain ⟨b9, o9, z9, hae9, hb9, hz9, hrd9⟩ := hrow8.at (i := n - 1) (by omega) (by omega)
    have hz9' : z9 = cz := by rw [hcz]; exact hz9
    subst hz9'
    rw [e3]
    refine ⟨b9, o9, hae9, in_ok hA (by omega) (by omega), ?_⟩
    ((try (conv => cbv)); repeat (refine brk_ok hA ?_; (try (conv => cbv))))
    refine ⟨z9, rd_ok hA hrd9, ?_⟩
    ((try (conv => cbv)); repeat (refine brk_ok hA ?_; (try (conv => cbv))))
    have w1 : arith .mul .i64 z num = z * num := mul64 hA (by omega) (by omega)
    have w2 : arith .mul .i64 den z9 = den * z9 := mul64 hA (by omega) (by omega)
    have w3 : cmp .lss (z * num) (den * z9) = true := by rw [e_lss hA]; exact decide_eq_true hlast
    rw [w1, w2, w3]
    exact hQ h9 e9

end Go.Proofs.Ytogofeppflindaa
