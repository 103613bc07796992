/-
  The law CleanLinear: its walk.
-/
import Derived.Test.YtogofeppflindaaCLaw2
import Derived.Test.YtogofeppflindaaCTwo
import Derived.Test.YtogofeppflindaaSeatL7
namespace Go.Proofs.Ytogofeppflindaa
open Go.Sim
set_option linter.unusedVariables false
set_option maxRecDepth 100000

theorem take_neg (l : List Comp) {i : Int} (h0 : 0 ≤ i) (hi : i < l.length) : (l.map neg').take (i + 1).toNat = (l.map neg').take i.toNat ++ [neg' (ca l i)] := by
  rw [toNat_succ h0, List.take_add_one, List.getElem?_map, List.getElem?_eq_getElem (by omega)]
  unfold ca
  rw [List.getD, List.getElem?_eq_getElem (by omega)]
  rfl

theorem Ext.bumpPut' (h : AHeap) (n : Nat) {b : Nat} (hb : h.next ≤ b) (es : Nat) (cs : List Value) : Ext h ((h.bump n).putAt b es cs) :=
  ⟨by simp [AHeap.bump, AHeap.putAt], fun l => by simp only [AHeap.bump, AHeap.putAt]; omega, by simp only [AHeap.bump, AHeap.putAt]; exact Nat.min_le_left _ _, fun i hi => by
    simp only [AHeap.bump, AHeap.putAt]; rw [Tri.get_set_ne _ _ (by omega)]⟩

theorem Own2.log {h : AHeap} {b n c : Nat} {l : List Comp} (p : Own2 h 3 b n c (flatC l)) : Log h (some ⟨b, 0, none⟩) n l := by
  obtain ⟨ho, hb, hl, _⟩ := p
  exact ⟨⟨rfl, hb, by rw [ho.readG (by omega)]; simp [← hl]⟩⟩
theorem flatC_append (l m : List Comp) : flatC (l ++ m) = flatC l ++ flatC m := by unfold flatC; simp

/-- Two logs, one behind the other, in a list of their own. -/
theorem join_two {h : AHeap} {al : Option Addr} {kl cl : Nat} {l : List Comp} (hl : Log h al kl l) {am : Option Addr} {km cm : Nat} {l2 : List Comp} (hl2 : Log h am km l2) (hs : kl + km ≤ 1000) :
    ∃ b1 c1 h1, appendH Try.prog (h.push 3 []) [27, 27] [.slice (some ⟨h.next, 0, none⟩) 0 0, .slice al kl cl] = some (.slice (some ⟨b1, 0, none⟩) kl c1, h1) ∧
      ∃ b2 c2 h2, appendH Try.prog h1 [27, 27] [.slice (some ⟨b1, 0, none⟩) kl c1, .slice am km cm] = some (.slice (some ⟨b2, 0, none⟩) (kl + km) c2, h2) ∧ Ext h h2 ∧ Log h2 (some ⟨b2, 0, none⟩) (kl + km) (l ++ l2) := by
  have e0 : Ext h (h.push 3 []) := .push _ _ _
  have o0 : Own (h.push 3 []) h.next 3 [] := Own.push _ _ _
  have n0 : (h.push 3 []).next = h.next + 1 := rfl
  obtain ⟨b1, c1, h1, q1, q2, q3⟩ := append_any (P := Try.prog) (t := 27) (t2 := 27) (c2 := cl) (c := 0) T27 T27.und ⟨o0, by omega, by simp, .inl ⟨rfl, rfl⟩⟩ (hl.ext e0).cells rfl (flatC_ok l) (by omega)
  rw [Nat.zero_add] at q1 q2
  rw [List.nil_append] at q2
  obtain ⟨x1, f1⟩ := q3 h e0 (Nat.le_refl _)
  obtain ⟨b2, c2, h2, u1, u2, u3⟩ := append_any (P := Try.prog) (t := 27) (t2 := 27) (c2 := cm) T27 T27.und q2 (hl2.ext x1).cells (flatC_ok l) (flatC_ok l2) (by omega)
  rw [← flatC_append] at u2
  exact ⟨b1, c1, h1, q1, b2, c2, h2, u1, (u3 h x1 f1).1, Own2.log u2⟩

variable {call : FuncId → List Value → AHeap → (Value → AHeap → Prop) → Prop}
  {head : FuncId → Nat → Nat → SS → (Exit → SS → Prop) → Prop}
  {arith : BinOp → IntKind → Int → Int → Int}
  {cmp : BinOp → Int → Int → Bool}
  {scmp : BinOp → ByteArray → ByteArray → Bool}
  {bnot : Bool → Bool}
  {bsame : Bool → Bool → Bool}
  {conv : IntKind → Int → Int}
  {neg : IntKind → Int → Int}
  {imax : Int → Int → Int}
  {imin : Int → Int → Int}
  {ofNat : Nat → Int}
  {slen : ByteArray → Int}
  {place : Nat → Int → Nat → Nat}
  {inR : Int → Nat → Prop}
  {nz : Int → Prop}
  {geZ : Int → Prop}
  {rd : AHeap → Nat → Nat → Nat → List Value → Prop}
  {wr : AHeap → Nat → Nat → List Value → AHeap → Prop}
  {push : AHeap → Nat → List Value → AHeap}
  {next : AHeap → Nat}
  {mkOK : Int → Int → Prop}
  {nat : Int → Nat}
  {zeros : List Value → Int → List Value}
  {sadd : ByteArray → ByteArray → (ByteArray → Prop) → Prop}
  {eqAgg : TypeId → Array Value → Array Value → (Bool → Prop) → Prop}
  {cut : Nat → Int → Prop}
  {slc : TypeId → Value → Option Value → Option Value → Option Value → (Option Addr → Nat → Nat → Prop) → Prop}
  {sslc : TypeId → ByteArray → Option Value → Option Value → (ByteArray → Prop) → Prop}
  {strAt : ByteArray → Int → (Int → Prop) → Prop}
  {part : TypeId → Array Value → Nat → Value → Prop}
  {app : List TypeId → List Value → AHeap → (Option Addr → Nat → Nat → AHeap → Prop) → Prop}
  {cpy : List TypeId → List Value → AHeap → (Int → AHeap → Prop) → Prop}
  {putAt : AHeap → Nat → Nat → List Value → AHeap}
  {fresh : AHeap → AHeap}
  {lowered : AHeap → AHeap → AHeap}
  {bump : AHeap → Nat → AHeap}
  {wrote : AHeap → AHeap → Bool}
  {addN : Nat → Nat → Nat}
  {lt : Nat → Nat → Prop}
  {ne : Nat → Nat → Prop}
  {fpAll : Bool → Bool → Bool → Nat → Nat → Prop}
  {brk : (Unit → Prop) → Prop}
  {yn : Nat → Nat}
  {rng : FuncId → Nat → SS → (Exit → SS → Prop) → Prop}
  {mget : TypeId → Value → Value → AHeap → Value → Bool → Prop}
  {mput : TypeId → Value → Value → Value → AHeap → AHeap → Prop}
  {mnew : AHeap → AHeap}
  {bytes : TypeId → TypeId → Option Addr → Nat → AHeap → ByteArray → Prop}
  {clr : List TypeId → List Value → AHeap → AHeap → Prop}
  (hA : AOK progU hint prims ⟨call, head, arith, cmp, scmp, bnot, bsame, conv, neg, imax, imin, ofNat, slen, place, inR, nz, geZ, rd, wr, push, next, mkOK, nat, zeros, sadd, eqAgg, cut, slc, sslc, strAt, part, app, cpy, putAt, fresh, lowered, bump, wrote, addN, lt, ne, fpAll, brk, yn, rng, mget, mput, mnew, bytes, clr⟩)
include hA

theorem back_loop {h0 : AHeap} (hlow0 : h0.low ≤ h0.next) {ai ab : Option Addr} {mi ci mb kb : Nat} {al : Option Addr} {kl cl : Nat} {l : List Comp} (hl : Log h0 al kl l) {am : Option Addr} {km cm : Nat} {ao : Option Addr} {ko co : Nat} {both : List Comp} (hbo : Log h0 ao ko both) (hko : (ko : Int) ≤ 100) (hkl : kl ≤ ko) {n : Int} (hlog : logP n l) {Q : Exit → SS → Prop}
    (h1 : ∀ h' a11 k11 c11, Ext h0 h' → Log h' a11 k11 (l.map neg') → (∀ i : Int, 0 ≤ i → i < both.length → within 1000 (ca both i).f) → Q (.exit 0) ⟨[(0, .slice ai mi ci), (1, .slice ab mb kb), (2, .slice al kl cl), (3, .slice am km cm), (9, .bool true), (10, .slice ao ko co), (11, .slice a11 k11 c11)], 0, [], h'⟩)
    (h2 : ∀ e kn K h', Ext h0 h' → Q .ret ⟨(8, .bool true) :: e, kn, K, h'⟩) :
    ∀ i : Int, 0 ≤ i → i ≤ ko → ∀ h a11 k11 c11, Ext h0 h → Apd h 3 a11 k11 c11 (flatC ((l.map neg').take i.toNat)) → From h0.next a11 → (∀ j : Int, 0 ≤ j → j < i → within 1000 (ca both j).f) →
      head 7 7 0 ⟨[(0, .slice ai mi ci), (1, .slice ab mb kb), (2, .slice al kl cl), (3, .slice am km cm), (9, .bool true), (10, .slice ao ko co), (11, .slice a11 k11 c11), (12, .int .i64 i)], 0, [], h⟩ Q := by
  have hll := hl.len
  have hlo := hbo.len
  refine countUp (fun i hi0 hin ih h a11 k11 c11 e hp fr hall => ?_)
  refine hA.roundR Try.func7 r7_ok ?_; (try (conv => cbv)); repeat (refine brk_ok hA ?_; (try (conv => cbv)))
  refine br (i < ko) (by rw [e_lss hA, e_ofNat hA]) (fun c1 => ?_) (fun c1 => ?_) <;> (try (conv => cbv)) <;> repeat (refine brk_ok hA ?_; (try (conv => cbv)))
  · obtain ⟨b, o, x, y, f, hae, hbn, hca, _, hrx, hry, hrf⟩ := (hbo.ext e).at hi0 c1
    have ha : arith .add .i64 i 1 = i + 1 := add64 hA (by omega) (by omega)
    refine ⟨b, o, hae, in_ok hA hi0 c1, ?_⟩
    ((try (conv => cbv)); repeat (refine brk_ok hA ?_; (try (conv => cbv))))
    refine ⟨f, rd_fld hA hrf, ?_⟩
    ((try (conv => cbv)); repeat (refine brk_ok hA ?_; (try (conv => cbv))))
    refine br (f < -1000) (by rw [e_lss hA]) (fun c2 => ?_) (fun c2 => ?_) <;> (try (conv => cbv)) <;> repeat (refine brk_ok hA ?_; (try (conv => cbv)))
    · exact h2 _ _ _ h e
    refine ⟨b, o, hae, in_ok hA hi0 c1, ?_⟩
    ((try (conv => cbv)); repeat (refine brk_ok hA ?_; (try (conv => cbv))))
    refine ⟨f, rd_fld hA hrf, ?_⟩
    ((try (conv => cbv)); repeat (refine brk_ok hA ?_; (try (conv => cbv))))
    refine br (1000 < f) (by rw [e_gtr hA]) (fun c3 => ?_) (fun c3 => ?_) <;> (try (conv => cbv)) <;> repeat (refine brk_ok hA ?_; (try (conv => cbv)))
    · exact h2 _ _ _ h e
    have hall' : ∀ j : Int, 0 ≤ j → j < i + 1 → within 1000 (ca both j).f := fun j j0 j1 => by
      by_cases ej : j = i
      · rw [ej, hca]; unfold within; simp only []; omega
      · exact hall j j0 (by omega)
    refine br (i < kl) (by rw [e_lss hA, e_ofNat hA]) (fun c4 => ?_) (fun c4 => ?_) <;> (try (conv => cbv)) <;> repeat (refine brk_ok hA ?_; (try (conv => cbv)))
    · obtain ⟨h9, hh9⟩ : ∃ z, z = bump h 21 := ⟨_, rfl⟩
      obtain ⟨nh, hnh⟩ : ∃ z, z = next h := ⟨_, rfl⟩
      have e9 : Ext h h9 := by rw [hh9, e_bump hA]; exact .bump _ _
      rw [← hh9, ← hnh]
      obtain ⟨b2, o2, x2, y2, f2, hae2, hbn2, hca2, _, hrx2, hry2, hrf2⟩ := ((hl.ext e).ext e9).at hi0 c4
      refine ⟨b2, o2, hae2, in_ok hA hi0 c4, ?_⟩
      ((try (conv => cbv)); repeat (refine brk_ok hA ?_; (try (conv => cbv))))
      refine ⟨x2, rd_fld hA hrx2, ?_⟩
      ((try (conv => cbv)); repeat (refine brk_ok hA ?_; (try (conv => cbv))))
      refine ⟨b2, o2, hae2, in_ok hA hi0 c4, ?_⟩
      ((try (conv => cbv)); repeat (refine brk_ok hA ?_; (try (conv => cbv))))
      refine ⟨y2, rd_fld hA hry2, ?_⟩
      ((try (conv => cbv)); repeat (refine brk_ok hA ?_; (try (conv => cbv))))
      refine ⟨b2, o2, hae2, in_ok hA hi0 c4, ?_⟩
      ((try (conv => cbv)); repeat (refine brk_ok hA ?_; (try (conv => cbv))))
      refine ⟨f2, rd_fld hA hrf2, ?_⟩
      ((try (conv => cbv)); repeat (refine brk_ok hA ?_; (try (conv => cbv))))
      have hlg := hlog.2 i hi0 (by omega)
      rw [hca2] at hlg
      have hf2 := hlg.2.2.2.2
      unfold within at hf2
      simp only [] at hf2
      have hneg : neg .i64 f2 = 0 - f2 := by rw [e_neg hA, wrap64 (by omega) (by omega)]
      obtain ⟨nf, hnf⟩ : ∃ v, v = 0 - f2 := ⟨_, rfl⟩
      have hpn : neg' (ca l i) = ⟨x2, y2, nf⟩ := by rw [hca2, hnf]; rfl
      rw [hneg, ← hnf]
      obtain ⟨bq, hbq⟩ : ∃ v, v = addN nh 18 := ⟨_, rfl⟩
      have hbq' : bq = h.next + 18 := by rw [hbq, hnh, e_addN hA, e_next hA]
      obtain ⟨X, hX⟩ : ∃ v, v = putAt h9 bq 3 [Value.int .i64 x2, Value.int .i64 y2, Value.int .i64 nf] := ⟨_, rfl⟩
      have oX : Own X bq 3 (Comp.cells ⟨x2, y2, nf⟩) := by rw [hX, e_putAt hA]; exact Own.putAt _ _ _ _
      have eX : Ext h X := by rw [hX, e_putAt hA, hh9, e_bump hA]; exact Ext.bumpPut' h 21 (by omega) 3 _
      have nX : X.next = h.next + 21 := by rw [hX, e_putAt hA, hh9, e_bump hA]; rfl
      rw [← hbq, ← hX]
      have fX := ext_fresh hA X
      have nfX : (fresh X).next = X.next := by rw [e_fresh hA]; rfl
      have oF : Own (fresh X) bq 3 (Comp.cells ⟨x2, y2, nf⟩) := oX.ext fX (by omega)
      have hs : Cells (fresh X) (some ⟨bq, 0, none⟩) 1 3 (Comp.cells ⟨x2, y2, nf⟩) := ⟨rfl, by simp only []; omega, by rw [oF.readG (by simp [Comp.cells])]; rfl⟩
      have hk11 : k11 ≤ 100 := by
        have := hp.cells.length
        rw [flatC_len, List.length_take] at this
        omega
      obtain ⟨a12, c12, h12, q1, q2, q3, q4, q5, q6⟩ := append_keep T27 T27.und (hp.ext (eX.trans fX)) hs (c2 := 1) (flatC_ok _) rfl (by omega) (by omega)
      refine app_ok hA q1 ?_
      ((try (conv => cbv)); repeat (refine brk_ok hA ?_; (try (conv => cbv))))
      obtain ⟨w1, w2⟩ := q3 h0 (e.trans (eX.trans fX)) fr
      rw [ha]
      refine ih c1 _ a12 (k11 + 1) c12 (by rw [e_lowered hA]; exact Ext.lower' w1 (e.trans eX) hlow0) ?_ w2 hall'
      rw [take_neg l hi0 (by omega), hpn]
      have hfl : flatC ((l.map neg').take i.toNat ++ [⟨x2, y2, nf⟩]) = flatC ((l.map neg').take i.toNat) ++ Comp.cells ⟨x2, y2, nf⟩ := by unfold flatC; simp
      rw [hfl]
      exact q2.of_get (by rw [e_lowered hA]; exact Nat.le_refl _) (fun ad had hb => by rw [e_lowered hA]; rfl)
    · rw [ha]
      refine ih c1 h a11 k11 c11 e ?_ fr hall'
      rw [List.take_of_length_le (by simp; omega)] at hp ⊢
      exact hp
  · refine h1 h a11 k11 c11 e ?_ (fun j j0 j1 => hall j j0 (by omega))
    rw [List.take_of_length_le (by simp; omega)] at hp
    exact ⟨hp.cells⟩

theorem add_inner {h0 : AHeap} {v1 v3 v13 v15 : Option Addr × Nat × Nat} {aX : Option Addr} {mX cX : Nat} {gX : Grid} (hX : Img h0 aX mX gX) {aY : Option Addr} {mY cY : Nat} {gY : Grid} (hY : Img h0 aY mY gY) {aZ : Option Addr} {mZ cZ : Nat} {gZ : Grid} (hZ : Img h0 aZ mZ gZ) {n : Int} (n1 : 1 ≤ n) (n8 : n ≤ 8) (hmX : (mX : Int) = n) (hmY : (mY : Int) = n) (hmZ : (mZ : Int) = n) (sX : squareP gX n 1000000000) (sY : squareP gY n 1000000000) (sZ : shp gZ n)
    (law : ∀ y x : Int, 0 ≤ y → y < n → 0 ≤ x → x < n → cell gX y x + cell gY y x = cell gZ y x) {y : Int} (y0 : 0 ≤ y) (y1 : y < n) {Q : Exit → SS → Prop}
    (h1 : ∀ h', Ext h0 h' → Q (.exit 4) ⟨[(1, .slice v1.1 v1.2.1 v1.2.2), (3, .slice v3.1 v3.2.1 v3.2.2), (9, .bool true), (13, .slice v13.1 v13.2.1 v13.2.2), (15, .slice v15.1 v15.2.1 v15.2.2), (19, .slice aX mX cX), (21, .slice aY mY cY), (23, .slice aZ mZ cZ), (25, .int .i64 y)], 0, [], h'⟩) :
    ∀ x : Int, 0 ≤ x → x ≤ mZ → ∀ h, Ext h0 h → head 7 25 0 ⟨[(1, .slice v1.1 v1.2.1 v1.2.2), (3, .slice v3.1 v3.2.1 v3.2.2), (9, .bool true), (13, .slice v13.1 v13.2.1 v13.2.2), (15, .slice v15.1 v15.2.1 v15.2.2), (19, .slice aX mX cX), (21, .slice aY mY cY), (23, .slice aZ mZ cZ), (25, .int .i64 y), (26, .int .i64 x)], 0, [], h⟩ Q := by
  refine countUp (fun x hx0 hxn ih h e => ?_)
  refine hA.roundR Try.func7 r7_ok ?_; (try (conv => cbv)); repeat (refine brk_ok hA ?_; (try (conv => cbv)))
  refine br (x < mZ) (by rw [e_lss hA, e_ofNat hA]) (fun c1 => ?_) (fun c1 => ?_) <;> (try (conv => cbv)) <;> repeat (refine brk_ok hA ?_; (try (conv => cbv)))
  · obtain ⟨h9, hh9⟩ : ∃ z, z = bump h 23 := ⟨_, rfl⟩
    obtain ⟨nh, hnh⟩ : ∃ z, z = next h := ⟨_, rfl⟩
    have e9 : Ext h0 h9 := by rw [hh9, e_bump hA]; exact e.trans (.bump _ _)
    rw [← hh9, ← hnh]
    have lw := law y x y0 y1 hx0 (by omega)
    have hri := sZ.2 y y0 y1
    have hrg := (squareP_shp sX).2 y y0 y1
    have hrs := (squareP_shp sY).2 y y0 y1
    have bg := cellsN sX y0 y1 hx0 (by omega)
    have bs := cellsN sY y0 y1 hx0 (by omega)
    obtain ⟨b, o, ra, rn, rc, hae, hbn, hrd, hrow, hrl⟩ := (hX.ext e9).row y0 (by omega)
    obtain ⟨b2, o2, z, hae2, hb2, hz1, hrd2⟩ := hrow.at hx0 (by omega)
    have hzc : z = cell gX y x := hz1
    refine ⟨b, o, hae, in_ok hA y0 (by omega), ?_⟩
    ((try (conv => cbv)); repeat (refine brk_ok hA ?_; (try (conv => cbv))))
    refine ⟨ra, rn, rc, rd_ok hA hrd, ?_⟩
    ((try (conv => cbv)); repeat (refine brk_ok hA ?_; (try (conv => cbv))))
    refine ⟨b2, o2, hae2, in_ok hA hx0 (by omega), ?_⟩
    ((try (conv => cbv)); repeat (refine brk_ok hA ?_; (try (conv => cbv))))
    refine ⟨z, rd_ok hA hrd2, ?_⟩
    ((try (conv => cbv)); repeat (refine brk_ok hA ?_; (try (conv => cbv))))
    obtain ⟨b', o', ra', rn', rc', hae', hbn', hrd', hrow', hrl'⟩ := (hY.ext e9).row y0 (by omega)
    obtain ⟨b2', o2', z', hae2', hb2', hz1', hrd2'⟩ := hrow'.at hx0 (by omega)
    have hzc' : z' = cell gY y x := hz1'
    refine ⟨b', o', hae', in_ok hA y0 (by omega), ?_⟩
    ((try (conv => cbv)); repeat (refine brk_ok hA ?_; (try (conv => cbv))))
    refine ⟨ra', rn', rc', rd_ok hA hrd', ?_⟩
    ((try (conv => cbv)); repeat (refine brk_ok hA ?_; (try (conv => cbv))))
    refine ⟨b2', o2', hae2', in_ok hA hx0 (by omega), ?_⟩
    ((try (conv => cbv)); repeat (refine brk_ok hA ?_; (try (conv => cbv))))
    refine ⟨z', rd_ok hA hrd2', ?_⟩
    ((try (conv => cbv)); repeat (refine brk_ok hA ?_; (try (conv => cbv))))
    obtain ⟨b'', o'', ra'', rn'', rc'', hae'', hbn'', hrd'', hrow'', hrl''⟩ := (hZ.ext e9).row y0 (by omega)
    obtain ⟨b2'', o2'', z'', hae2'', hb2'', hz1'', hrd2''⟩ := hrow''.at hx0 (by omega)
    have hzc'' : z'' = cell gZ y x := hz1''
    refine ⟨b'', o'', hae'', in_ok hA y0 (by omega), ?_⟩
    ((try (conv => cbv)); repeat (refine brk_ok hA ?_; (try (conv => cbv))))
    refine ⟨ra'', rn'', rc'', rd_ok hA hrd'', ?_⟩
    ((try (conv => cbv)); repeat (refine brk_ok hA ?_; (try (conv => cbv))))
    refine ⟨b2'', o2'', hae2'', in_ok hA hx0 (by omega), ?_⟩
    ((try (conv => cbv)); repeat (refine brk_ok hA ?_; (try (conv => cbv))))
    refine ⟨z'', rd_ok hA hrd2'', ?_⟩
    ((try (conv => cbv)); repeat (refine brk_ok hA ?_; (try (conv => cbv))))
    have hs : arith .add .i64 z z' = z'' := by rw [add64 hA (by omega) (by omega)]; omega
    rw [hs]
    refine br (z'' ≠ z'') (by rw [e_neq hA]) (fun c3 => absurd rfl c3) (fun c3 => ?_) <;> (try (conv => cbv)) <;> repeat (refine brk_ok hA ?_; (try (conv => cbv)))
    rw [add64 hA (by omega) (by omega)]
    exact ih (by omega) h9 e9
  · exact h1 h e

theorem add_outer {h0 : AHeap} {v1 v3 v13 v15 : Option Addr × Nat × Nat} {aX : Option Addr} {mX cX : Nat} {gX : Grid} (hX : Img h0 aX mX gX) {aY : Option Addr} {mY cY : Nat} {gY : Grid} (hY : Img h0 aY mY gY) {aZ : Option Addr} {mZ cZ : Nat} {gZ : Grid} (hZ : Img h0 aZ mZ gZ) {n : Int} (n1 : 1 ≤ n) (n8 : n ≤ 8) (hmX : (mX : Int) = n) (hmY : (mY : Int) = n) (hmZ : (mZ : Int) = n) (sX : squareP gX n 1000000000) (sY : squareP gY n 1000000000) (sZ : shp gZ n)
    (law : ∀ y x : Int, 0 ≤ y → y < n → 0 ≤ x → x < n → cell gX y x + cell gY y x = cell gZ y x) {Q : Exit → SS → Prop}
    (h1 : ∀ h', Ext h0 h' → Q (.exit 2) ⟨[(1, .slice v1.1 v1.2.1 v1.2.2), (3, .slice v3.1 v3.2.1 v3.2.2), (9, .bool true), (13, .slice v13.1 v13.2.1 v13.2.2), (15, .slice v15.1 v15.2.1 v15.2.2)], 0, [], h'⟩) :
    ∀ y : Int, 0 ≤ y → y ≤ mZ → ∀ h, Ext h0 h → head 7 22 0 ⟨[(1, .slice v1.1 v1.2.1 v1.2.2), (3, .slice v3.1 v3.2.1 v3.2.2), (9, .bool true), (13, .slice v13.1 v13.2.1 v13.2.2), (15, .slice v15.1 v15.2.1 v15.2.2), (19, .slice aX mX cX), (21, .slice aY mY cY), (23, .slice aZ mZ cZ), (25, .int .i64 y)], 0, [], h⟩ Q := by
  refine countUp (fun y hy0 hyn ih h e => ?_)
  refine hA.roundR Try.func7 r7_ok ?_; (try (conv => cbv)); repeat (refine brk_ok hA ?_; (try (conv => cbv)))
  refine br (y < mZ) (by rw [e_lss hA, e_ofNat hA]) (fun c1 => ?_) (fun c1 => ?_) <;> (try (conv => cbv)) <;> repeat (refine brk_ok hA ?_; (try (conv => cbv)))
  · refine add_inner hA hX hY hZ n1 n8 hmX hmY hmZ sX sY sZ law hy0 (by omega) (fun h' e' => ?_) 0 (by omega) (by omega) h e
    ((try (conv => cbv)); repeat (refine brk_ok hA ?_; (try (conv => cbv))))
    rw [add64 hA (by omega) (by omega)]
    exact ih (by omega) h' e'
  · exact h1 h e

theorem linear_ok {h : AHeap} (hlow : h.low ≤ h.next) {a : Option Addr} {m k : Nat} {img : Grid} (hg : Img h a m img) (hm : (m : Int) ≤ 9223372036854775807) {ab : Option Addr} {mb kb : Nat} {bm : Grid} (hb : Img h ab mb bm) (hmb : (mb : Int) ≤ 9223372036854775807) {al : Option Addr} {kl cl : Nat} {l : List Comp} (hl : Log h al kl l) (hkl : (kl : Int) ≤ 9223372036854775807) {am : Option Addr} {km cm : Nat} {l2 : List Comp} (hl2 : Log h am km l2) (hkm : (km : Int) ≤ 9223372036854775807) {Q : Value → AHeap → Prop}
    (hQ : ∀ h', Ext h h' → Q (.bool true) h') : call 7 [.slice a m k, .slice ab mb kb, .slice al kl cl, .slice am km cm] h Q := by
  have hgl := hg.len
  have hbl := hb.len
  have hll := hl.len
  have hll2 := hl2.len
  have bt : bnot true = false := by rw [e_bnot hA]; rfl
  have bf : bnot false = true := by rw [e_bnot hA]; rfl
  refine hA.bodyR Try.func7 r7_ok (show prims _ _ _ = none from rfl) hlow ?_; (try (conv => cbv)); repeat (refine brk_ok hA ?_; (try (conv => cbv)))
  refine alive_ok hA ⟨_, rfl, ?_⟩
  ((try (conv => cbv)); repeat (refine brk_ok hA ?_; (try (conv => cbv))))
  refine great_ok2 hA hlow hg hm (fun r hr => ⟨_, rfl, ?_⟩)
  ((try (conv => cbv)); repeat (refine brk_ok hA ?_; (try (conv => cbv))))
  cases r with
  | true =>
    ((try (conv => cbv)); repeat (refine brk_ok hA ?_; (try (conv => cbv))))
    exact hQ h (.refl _)
  | false =>
  ((try (conv => cbv)); repeat (refine brk_ok hA ?_; (try (conv => cbv))))
  refine great_ok2 hA hlow hb hmb (fun r2 hr2 => ⟨_, rfl, ?_⟩)
  ((try (conv => cbv)); repeat (refine brk_ok hA ?_; (try (conv => cbv))))
  cases r2 with
  | true =>
    ((try (conv => cbv)); repeat (refine brk_ok hA ?_; (try (conv => cbv))))
    exact hQ h (.refl _)
  | false =>
  ((try (conv => cbv)); repeat (refine brk_ok hA ?_; (try (conv => cbv))))
  refine rchk_ok hA hlow hg hb (c := ⟨1, 1, 1, 0⟩) (fun e he => ⟨_, rfl, ?_⟩)
  ((try (conv => cbv)); repeat (refine brk_ok hA ?_; (try (conv => cbv))))
  refine br (e ≠ 0) (by rw [e_neq hA]) (fun c1 => ?_) (fun c1 => ?_) <;> (try (conv => cbv)) <;> repeat (refine brk_ok hA ?_; (try (conv => cbv)))
  · exact hQ h (.refl _)
  have he0 : e = 0 := by omega
  subst he0
  obtain ⟨hi, hbm, hcl⟩ := he.ok
  have hi1 := hi.1
  have hi2 := hi.2.1
  have hsq := hi.2.2
  have hb1 := hbm.1.1
  have hmo : ofNat m = (img.length : Int) := by rw [e_ofNat hA]; omega
  obtain ⟨n, hn⟩ : ∃ n : Int, n = img.length := ⟨_, rfl⟩
  rw [← hn] at hbm hsq hmo hi1 hi2 hb1
  rw [hmo]
  refine rlog_ok2 hA hlow hl hkl (n := n) (fun r3 hr3 => ⟨_, rfl, ?_⟩)
  ((try (conv => cbv)); repeat (refine brk_ok hA ?_; (try (conv => cbv))))
  cases r3 with
  | false =>
    rw [bf]
    ((try (conv => cbv)); repeat (refine brk_ok hA ?_; (try (conv => cbv))))
    exact hQ h (.refl _)
  | true =>
  rw [bt]
  ((try (conv => cbv)); repeat (refine brk_ok hA ?_; (try (conv => cbv))))
  rw [hmo]
  refine rlog_ok2 hA hlow hl2 hkm (n := n) (fun r4 hr4 => ⟨_, rfl, ?_⟩)
  ((try (conv => cbv)); repeat (refine brk_ok hA ?_; (try (conv => cbv))))
  cases r4 with
  | false =>
    rw [bf]
    ((try (conv => cbv)); repeat (refine brk_ok hA ?_; (try (conv => cbv))))
    exact hQ h (.refl _)
  | true =>
  rw [bt]
  ((try (conv => cbv)); repeat (refine brk_ok hA ?_; (try (conv => cbv))))
  have hlog := hr3.1 rfl
  have hlog2 := hr4.1 rfl
  refine br (50 < (kl : Int)) (by rw [e_gtr hA, e_ofNat hA]) (fun c2 => ?_) (fun c2 => ?_) <;> (try (conv => cbv)) <;> repeat (refine brk_ok hA ?_; (try (conv => cbv)))
  · exact hQ h (.refl _)
  refine br (50 < (km : Int)) (by rw [e_gtr hA, e_ofNat hA]) (fun c3 => ?_) (fun c3 => ?_) <;> (try (conv => cbv)) <;> repeat (refine brk_ok hA ?_; (try (conv => cbv)))
  · exact hQ h (.refl _)
  rw [bt]
  ((try (conv => cbv)); repeat (refine brk_ok hA ?_; (try (conv => cbv))))
  rw [e_push hA, e_next hA]
  obtain ⟨b1, d1, h1, q1, b2, d2, h2, q2, x2, hbo⟩ := join_two (cl := cl) (cm := cm) hl hl2 (by omega)
  obtain ⟨ko, hko⟩ : ∃ v, v = kl + km := ⟨_, rfl⟩
  rw [← hko] at q2 hbo
  refine app_ok hA q1 ?_
  ((try (conv => cbv)); repeat (refine brk_ok hA ?_; (try (conv => cbv))))
  refine app_ok hA q2 ?_
  ((try (conv => cbv)); repeat (refine brk_ok hA ?_; (try (conv => cbv))))
  refine back_loop hA (x2.lowOK hlow) (hl.ext x2) hbo (by omega) (by omega) hlog (fun h3 a11 k11 c11 x3' hbk hsm => ?_) (fun e kn K h3 x3' => ?_) 0 (by omega) (by omega) h2 none 0 0 (.refl _) (by simpa [flatC] using Apd.nil h2 3) (From.none _) (fun j j0 j1 => by omega)
  rotate_left
  · ((try (conv => cbv)); repeat (refine brk_ok hA ?_; (try (conv => cbv))))
    exact hQ h3 (x2.trans x3')
  ((try (conv => cbv)); repeat (refine brk_ok hA ?_; (try (conv => cbv))))
  have hln := hbk.len
  rw [List.length_map] at hln
  have fb : flat n (l ++ l2) := by
    intro p hp
    refine ⟨?_, ?_⟩
    · rcases List.mem_append.1 hp with q | q
      · exact logP_mem hlog p q
      · exact logP_mem hlog2 p q
    · obtain ⟨j, hj⟩ := List.getElem?_of_mem hp
      have hjl : j < (l ++ l2).length := (List.getElem?_eq_some_iff.1 hj).1
      have := hsm j (by omega) (by omega)
      unfold ca at this
      rw [Int.toNat_natCast, List.getD, hj] at this
      exact this
  have fl : flat n l := fun p hp => fb p (List.mem_append_left _ hp)
  have fm : flat n l2 := fun p hp => fb p (List.mem_append_right _ hp)
  have hlb : logP n (l ++ l2) := logP_of (by simp; omega) (fun p hp => (fb p hp).1)
  have hlc : logP n (l ++ l.map neg') := logP_of (by simp; omega) (fun p hp => ((flat_append fl (flat_neg fl)) p hp).1)
  obtain ⟨ga, fa, sa⟩ := folds_some hi1 hbm l img 1000000 hsq fl (by omega) (by omega)
  obtain ⟨gb, fbb, sb⟩ := folds_some hi1 hbm (l ++ l2) img 1000000 hsq fb (by omega) (by simp; omega)
  have fc := folds_back hi1 hbm hsq (by omega) fl
  have ra : RepIs img bm l 0 (some ga) := .inr (.inr ⟨hi, by rw [← hn]; exact hbm, by rw [← hn]; exact hlog, _, by rw [← hn]; exact fa, .inr ⟨ga, rfl, rfl, rfl⟩⟩)
  have rb : RepIs img bm (l ++ l2) 0 (some gb) := .inr (.inr ⟨hi, by rw [← hn]; exact hbm, by rw [← hn]; exact hlb, _, by rw [← hn]; exact fbb, .inr ⟨gb, rfl, rfl, rfl⟩⟩)
  have rc : RepIs img bm (l ++ l.map neg') 0 (some img) := .inr (.inr ⟨hi, by rw [← hn]; exact hbm, by rw [← hn]; exact hlc, _, by rw [← hn]; exact fc, .inr ⟨img, rfl, rfl, rfl⟩⟩)
  have x3 := x2.trans x3'
  refine rep_is hA (x3.lowOK hlow) (hg.ext x3) (hb.ext x3) (hl.ext x3) (by omega) (.inl rfl) (fun a4 m4 c4 e4 h4 x4' p4 => ⟨_, _, _, _, rfl, ?_⟩)
  have x4 := x3.trans x4'
  obtain ⟨r4, t4, i4, _⟩ := p4
  obtain ⟨rfl, rfl⟩ := t4.uniq ra
  have i4 : Img h4 a4 m4 ga := i4
  ((try (conv => cbv)); repeat (refine brk_ok hA ?_; (try (conv => cbv))))
  refine rep_is hA (x4.lowOK hlow) (hg.ext x4) (hb.ext x4) (hbo.ext (x3'.trans x4')) (by omega) (.inl rfl) (fun a5 m5 c5 e5 h5 x5' p5 => ⟨_, _, _, _, rfl, ?_⟩)
  have x5 := x4.trans x5'
  obtain ⟨r5, t5, i5, _⟩ := p5
  obtain ⟨rfl, rfl⟩ := t5.uniq rb
  have i5 : Img h5 a5 m5 gb := i5
  ((try (conv => cbv)); repeat (refine brk_ok hA ?_; (try (conv => cbv))))
  rw [e_push hA, e_next hA]
  obtain ⟨b6, d6, h6, q6, b7, d7, h7, q7, x7', hbc⟩ := join_two (cl := cl) (cm := c11) (hl.ext x5) (hbk.ext (x4'.trans x5')) (by omega)
  obtain ⟨kc, hkc⟩ : ∃ v, v = kl + k11 := ⟨_, rfl⟩
  rw [← hkc] at q7 hbc
  refine app_ok hA q6 ?_
  ((try (conv => cbv)); repeat (refine brk_ok hA ?_; (try (conv => cbv))))
  refine app_ok hA q7 ?_
  ((try (conv => cbv)); repeat (refine brk_ok hA ?_; (try (conv => cbv))))
  have x7 := x5.trans x7'
  refine rep_is hA (x7.lowOK hlow) (hg.ext x7) (hb.ext x7) hbc (by omega) (.inl rfl) (fun a8 m8 c8 e8 h8 x8' p8 => ⟨_, _, _, _, rfl, ?_⟩)
  have x8 := x7.trans x8'
  obtain ⟨r8, t8, i8, _⟩ := p8
  obtain ⟨rfl, rfl⟩ := t8.uniq rc
  have i8 : Img h8 a8 m8 img := i8
  ((try (conv => cbv)); repeat (refine brk_ok hA ?_; (try (conv => cbv))))
  obtain ⟨ma, za⟩ := mod_flat hi1 hi2 (l := l) (by omega) fl
  obtain ⟨mm, zm⟩ := mod_flat hi1 hi2 (l := l2) (by omega) fm
  obtain ⟨mo, zo⟩ := mod_flat hi1 hi2 (l := l ++ l2) (by simp; omega) fb
  rw [hmo]
  refine mod_is hA (x8.lowOK hlow) (hl.ext x8) (by omega) (.inl rfl) (fun a9 m9 c9 e9 h9 x9' p9 => ⟨_, _, _, _, rfl, ?_⟩)
  have x9 := x8.trans x9'
  obtain ⟨r9, t9, i9, _⟩ := p9
  obtain ⟨rfl, rfl⟩ := t9.uniq ma
  have i9 : Img h9 a9 m9 (mkG n (here l)) := i9
  ((try (conv => cbv)); repeat (refine brk_ok hA ?_; (try (conv => cbv))))
  rw [hmo]
  refine mod_is hA (x9.lowOK hlow) (hl2.ext x9) (by omega) (.inl rfl) (fun a10 m10 c10 e10 h10 x10' p10 => ⟨_, _, _, _, rfl, ?_⟩)
  have x10 := x9.trans x10'
  obtain ⟨r10, t10, i10, _⟩ := p10
  obtain ⟨rfl, rfl⟩ := t10.uniq mm
  have i10 : Img h10 a10 m10 (mkG n (here l2)) := i10
  ((try (conv => cbv)); repeat (refine brk_ok hA ?_; (try (conv => cbv))))
  rw [hmo]
  refine mod_is hA (x10.lowOK hlow) (hbo.ext (x3'.trans (x4'.trans (x5'.trans (x7'.trans (x8'.trans (x9'.trans x10'))))))) (by omega) (.inl rfl) (fun a12 m12 c12 e12 h12 x12' p12 => ⟨_, _, _, _, rfl, ?_⟩)
  have x12 := x10.trans x12'
  obtain ⟨r12, t12, i12, _⟩ := p12
  obtain ⟨rfl, rfl⟩ := t12.uniq mo
  have i12 : Img h12 a12 m12 (mkG n (here (l ++ l2))) := i12
  ((try (conv => cbv)); repeat (refine brk_ok hA ?_; (try (conv => cbv))))
  have c00 : cmp .neq 0 0 = false := by rw [e_neq hA]; rfl
  rw [c00]
  ((try (conv => cbv)); repeat (refine brk_ok hA ?_; (try (conv => cbv))))
  rw [c00]
  ((try (conv => cbv)); repeat (refine brk_ok hA ?_; (try (conv => cbv))))
  rw [c00]
  ((try (conv => cbv)); repeat (refine brk_ok hA ?_; (try (conv => cbv))))
  rw [c00]
  ((try (conv => cbv)); repeat (refine brk_ok hA ?_; (try (conv => cbv))))
  rw [c00]
  ((try (conv => cbv)); repeat (refine brk_ok hA ?_; (try (conv => cbv))))
  rw [c00]
  ((try (conv => cbv)); repeat (refine brk_ok hA ?_; (try (conv => cbv))))
  have w12 : Ext h8 h12 := x9'.trans (x10'.trans x12')
  refine same_ok hA (x12.lowOK hlow) (i8.ext w12) (hg.ext x12) (by have := i8.len; omega) (fun y q1 q2 => by have := (squareP_shp hsq).2 y q1 (by have := i8.len; omega); omega) (fun bb h13 x13' hbb => ⟨_, rfl, ?_⟩)
  obtain rfl : bb = true := hbb.2 rfl
  have x13 := x12.trans x13'
  ((try (conv => cbv)); repeat (refine brk_ok hA ?_; (try (conv => cbv))))
  rw [bt]
  ((try (conv => cbv)); repeat (refine brk_ok hA ?_; (try (conv => cbv))))
  have l9 : (m9 : Int) = n := by have := i9.len; have := za.1; omega
  have l10 : (m10 : Int) = n := by have := i10.len; have := zm.1; omega
  have l12 : (m12 : Int) = n := by have := i12.len; have := zo.1; omega
  have o9 : ofNat m9 = n := by rw [e_ofNat hA]; exact l9
  have o10 : ofNat m10 = n := by rw [e_ofNat hA]; exact l10
  have o12 : ofNat m12 = n := by rw [e_ofNat hA]; exact l12
  have cnn : cmp .neq n n = false := by rw [e_neq hA]; simp
  rw [o9, hmo, cnn]
  ((try (conv => cbv)); repeat (refine brk_ok hA ?_; (try (conv => cbv))))
  rw [o10, hmo, cnn]
  ((try (conv => cbv)); repeat (refine brk_ok hA ?_; (try (conv => cbv))))
  rw [o12, hmo, cnn]
  ((try (conv => cbv)); repeat (refine brk_ok hA ?_; (try (conv => cbv))))
  have s9 := square_more za (show (1000000 : Int) ≤ 1000000000 by omega)
  have s10 := square_more zm (show (1000000 : Int) ≤ 1000000000 by omega)
  have s12 := square_more zo (show (1000000 : Int) ≤ 1000000000 by omega)
  have v9 : Ext h9 h13 := x10'.trans (x12'.trans x13')
  have v10 : Ext h10 h13 := x12'.trans x13'
  have mki : ∀ {g : Grid}, squareP g n 1000000000 → imgP g 1000000000 := fun {g} hs => ⟨by have := hs.1; omega, by have := hs.1; omega, by rw [hs.1]; exact hs⟩
  refine rimg_ok hA (x13.lowOK hlow) (i9.ext v9) (by omega) (by omega) (fun r14 hr14 => ⟨_, rfl, ?_⟩)
  obtain rfl : r14 = true := hr14.2 (mki s9)
  ((try (conv => cbv)); repeat (refine brk_ok hA ?_; (try (conv => cbv))))
  rw [bt]
  ((try (conv => cbv)); repeat (refine brk_ok hA ?_; (try (conv => cbv))))
  refine rimg_ok hA (x13.lowOK hlow) (i10.ext v10) (by omega) (by omega) (fun r15 hr15 => ⟨_, rfl, ?_⟩)
  obtain rfl : r15 = true := hr15.2 (mki s10)
  ((try (conv => cbv)); repeat (refine brk_ok hA ?_; (try (conv => cbv))))
  rw [bt]
  ((try (conv => cbv)); repeat (refine brk_ok hA ?_; (try (conv => cbv))))
  refine rimg_ok hA (x13.lowOK hlow) (i12.ext x13') (by omega) (by omega) (fun r16 hr16 => ⟨_, rfl, ?_⟩)
  obtain rfl : r16 = true := hr16.2 (mki s12)
  ((try (conv => cbv)); repeat (refine brk_ok hA ?_; (try (conv => cbv))))
  rw [bt]
  ((try (conv => cbv)); repeat (refine brk_ok hA ?_; (try (conv => cbv))))
  refine add_outer hA (v1 := (ab, mb, kb)) (v3 := (am, km, cm)) (v13 := (a4, m4, c4)) (v15 := (a5, m5, c5)) (i9.ext v9) (i10.ext v10) (i12.ext x13') hi1 hi2 l9 l10 l12 s9 s10 (squareP_shp s12) (fun y x y0 y1 x0 x1 => by rw [mkG_cell _ y0 y1 x0 x1, mkG_cell _ y0 y1 x0 x1, mkG_cell _ y0 y1 x0 x1, here_append]) (fun h17 x17' => ?_) 0 (by omega) (by omega) h13 (.refl _)
  ((try (conv => cbv)); repeat (refine brk_ok hA ?_; (try (conv => cbv))))
  have x17 := x13.trans x17'
  have v4 : Ext h4 h17 := x5'.trans (x7'.trans (x8'.trans (x9'.trans (x10'.trans (x12'.trans (x13'.trans x17'))))))
  have v5 : Ext h5 h17 := x7'.trans (x8'.trans (x9'.trans (x10'.trans (x12'.trans (x13'.trans x17')))))
  refine rimg_ok hA (x17.lowOK hlow) (i4.ext v4) (by omega) (by omega) (fun r18 hr18 => ⟨_, rfl, ?_⟩)
  ((try (conv => cbv)); repeat (refine brk_ok hA ?_; (try (conv => cbv))))
  cases r18 with
  | false =>
    rw [bf]
    ((try (conv => cbv)); repeat (refine brk_ok hA ?_; (try (conv => cbv))))
    exact hQ h17 x17
  | true =>
  rw [bt]
  ((try (conv => cbv)); repeat (refine brk_ok hA ?_; (try (conv => cbv))))
  have ima := hr18.1 rfl
  have hga : (ga.length : Int) = n := sa.1
  have fd : Folds bm n ga l2 (some gb) := by
    obtain ⟨gd, fd, _⟩ := folds_some hi1 hbm l2 ga (1000000 + 1000000 * l.length) sa fm (by omega) (by omega)
    have := (fa.append ga l2 _ rfl fd).uniq fbb
    rw [this] at fd
    exact fd
  have rd : RepIs ga bm l2 0 (some gb) := .inr (.inr ⟨ima, by rw [hga]; exact hbm, by rw [hga]; exact hlog2, _, by rw [hga]; exact fd, .inr ⟨gb, rfl, rfl, rfl⟩⟩)
  refine rep_is hA (x17.lowOK hlow) (i4.ext v4) (hb.ext x17) (hl2.ext x17) (by omega) (.inl rfl) (fun a19 m19 c19 e19 h19 x19' p19 => ⟨_, _, _, _, rfl, ?_⟩)
  have x19 := x17.trans x19'
  obtain ⟨r19, t19, i19, _⟩ := p19
  obtain ⟨rfl, rfl⟩ := t19.uniq rd
  have i19 : Img h19 a19 m19 gb := i19
  ((try (conv => cbv)); repeat (refine brk_ok hA ?_; (try (conv => cbv))))
  have c00' : cmp .eql 0 0 = true := by rw [e_eql hA]; rfl
  rw [c00']
  ((try (conv => cbv)); repeat (refine brk_ok hA ?_; (try (conv => cbv))))
  have hgb : (gb.length : Int) = n := sb.1
  refine same_ok hA (x19.lowOK hlow) i19 (i5.ext (v5.trans x19')) (by have := i19.len; omega) (fun y q1 q2 => by have := (squareP_shp sb).2 y q1 (by have := i19.len; omega); omega) (fun bb h20 x20' hbb => ⟨_, rfl, ?_⟩)
  obtain rfl : bb = true := hbb.2 rfl
  ((try (conv => cbv)); repeat (refine brk_ok hA ?_; (try (conv => cbv))))
  exact hQ h20 (x19.trans x20')

end Go.Proofs.Ytogofeppflindaa
