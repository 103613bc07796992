/-
  fringelaw42.QueueWaits in the abstract machine: true.
-/
import Derived.Test.YtlpnmdknlfmjaaaDone
namespace Go.Proofs.Ytlpnmdknlfmjaaa
open Go.Sim
set_option linter.unusedVariables false
set_option maxRecDepth 100000

theorem cTo_pos {c : Int → Int} (h : ∀ j, 0 ≤ c j) (w : Int) : ∀ n, 0 ≤ cTo c w n
  | 0 => Int.le_refl _
  | n + 1 => by
    simp only [cTo]
    have := cTo_pos h w n
    have := h n
    split <;> omega

variable {call : FuncId → List Value → AHeap → (Value → AHeap → Prop) → Prop}
  {head : FuncId → Nat → Nat → SS → (Exit → SS → Prop) → Prop}
  {arith : BinOp → IntKind → Int → Int → Int}
  {cmp : BinOp → Int → Int → Bool}
  {scmp : BinOp → ByteArray → ByteArray → Bool}
  {bnot : Bool → Bool}
  {bsame : Bool → Bool → Bool}
  {conv : IntKind → Int → Int}
  {neg : IntKind → Int → Int}
  {imax : Int → Int → Int}
  {imin : Int → Int → Int}
  {ofNat : Nat → Int}
  {slen : ByteArray → Int}
  {place : Nat → Int → Nat → Nat}
  {inR : Int → Nat → Prop}
  {nz : Int → Prop}
  {geZ : Int → Prop}
  {rd : AHeap → Nat → Nat → Nat → List Value → Prop}
  {wr : AHeap → Nat → Nat → List Value → AHeap → Prop}
  {push : AHeap → Nat → List Value → AHeap}
  {next : AHeap → Nat}
  {mkOK : Int → Int → Prop}
  {nat : Int → Nat}
  {zeros : List Value → Int → List Value}
  {sadd : ByteArray → ByteArray → (ByteArray → Prop) → Prop}
  {eqAgg : TypeId → Array Value → Array Value → (Bool → Prop) → Prop}
  {cut : Nat → Int → Prop}
  {slc : TypeId → Value → Option Value → Option Value → Option Value → (Option Addr → Nat → Nat → Prop) → Prop}
  {sslc : TypeId → ByteArray → Option Value → Option Value → (ByteArray → Prop) → Prop}
  {strAt : ByteArray → Int → (Int → Prop) → Prop}
  {part : TypeId → Array Value → Nat → Value → Prop}
  {app : List TypeId → List Value → AHeap → (Option Addr → Nat → Nat → AHeap → Prop) → Prop}
  {cpy : List TypeId → List Value → AHeap → (Int → AHeap → Prop) → Prop}
  {putAt : AHeap → Nat → Nat → List Value → AHeap}
  {fresh : AHeap → AHeap}
  {lowered : AHeap → AHeap → AHeap}
  {bump : AHeap → Nat → AHeap}
  {wrote : AHeap → AHeap → Bool}
  {addN : Nat → Nat → Nat}
  {lt : Nat → Nat → Prop}
  {ne : Nat → Nat → Prop}
  {fpAll : Bool → Bool → Bool → Nat → Nat → Prop}
  {brk : (Unit → Prop) → Prop}
  (hA : AOK progU hint prims ⟨call, head, arith, cmp, scmp, bnot, bsame, conv, neg, imax, imin, ofNat, slen, place, inR, nz, geZ, rd, wr, push, next, mkOK, nat, zeros, sadd, eqAgg, cut, slc, sslc, strAt, part, app, cpy, putAt, fresh, lowered, bump, wrote, addN, lt, ne, fpAll, brk⟩)
include hA


theorem waits_loop {h : AHeap} (hlow : h.low ≤ h.next) {n : Nat} {l0 : List Proj} (hn : l0.length = n) {w B : Int} (hw : 0 ≤ w ∧ w < n) (hB : B = bdTo l0 w l0.length) (hB2 : B ≤ 1000) {al : Option Addr} {m cl : Nat} (hm : m ≤ 60) {L : List Int} (hL : Ints h .i64 al m L) (hLw : ∀ x ∈ L, -9223372036854775808 ≤ x ∧ x < 9223372036854775808) {Q : Exit → SS → Prop}
    (h0 : ∀ h' K, Ext h h' → Q (.exit 0) ⟨[(7, .bool true)], 6, K, h'⟩) :
    ∀ (i : Int), 0 ≤ i → i ≤ m → ∀ h' a c l' nu de cf ct, Ext h h' → Projs h' a n l' → n ≤ capLow c → Inv l0 l' nu de w cf → ct = cTo cf w n →
      head 8 9 6 ⟨[(1, .int .i64 w), (2, .slice al m cl), (3, .pointer (some ⟨0, 0, some 0⟩)), (7, .bool true), (8, .int .i64 B), (10, .int .i64 ct), (11, .int .i64 (ofNat n)), (12, .int .i64 i)], 6, [(0, [.slice a n c, .int .i64 nu, .int .i64 de])], h'⟩ Q := by
  have hlL := hL.len
  have bt := e_bnot hA true
  have bf := e_bnot hA false
  refine countUp (fun i hi0 hin ih h' a c l' nu de cf ct he hs hc hinv hct => ?_)
  have hl' := hs.len
  have h8 := (checkQ_zero hinv.ok).1
  refine hA.roundR Try.func8 r8_ok ?_; (try (conv => cbv)); repeat (refine brk_ok hA ?_; (try (conv => cbv)))
  refine br (i < m) (by rw [e_lss hA, e_ofNat hA]) (fun c1 => ?_) (fun c1 => ?_) <;> (try (conv => cbv)) <;> repeat (refine brk_ok hA ?_; (try (conv => cbv)))
  · obtain ⟨bL, oL, x, rfl, hbL, hx, hr⟩ := (hL.ext he).atI hi0 c1
    have hxw := hLw _ (at'_mem L hi0 (by omega))
    rw [← hx] at hxw
    refine ⟨bL, oL, rfl, in_ok hA hi0 c1, ?_⟩
    ((try (conv => cbv)); repeat (refine brk_ok hA ?_; (try (conv => cbv))))
    refine ⟨x, rd_ok hA (by rw [e_bump hA]; exact hr), ?_⟩
    ((try (conv => cbv)); repeat (refine brk_ok hA ?_; (try (conv => cbv))))
    rw [e_bump hA, e_fresh hA]
    have eX := Ext.bump h' 15
    generalize h'.bump 15 = X at *
    have eXf := eX.trans (Ext.freshed X)
    refine done_ok hA (freshed_low _) hc (hs.ext eXf) hinv.ok hw hxw (fun a1 n1 c1' u1 s1 srv h1 e1 => ⟨_, _, _, _, _, _, _, rfl, ?_⟩) (fun a1 c1' u1 s1 srv l1 h1 e1 st hsn p1 cap1 => ⟨_, _, _, _, _, _, _, rfl, ?_⟩)
    · ((try (conv => cbv)); repeat (refine brk_ok hA ?_; (try (conv => cbv))))
      refine ⟨ne_ok hA (by omega), wrote_no hA e1, ?_⟩
      ((try (conv => cbv)); repeat (refine brk_ok hA ?_; (try (conv => cbv))))
      rw [bf]
      ((try (conv => cbv)); repeat (refine brk_ok hA ?_; (try (conv => cbv))))
      rw [add64 hA (a := i) (b := 1) (by omega) (by omega), e_lowered hA]
      exact ih c1 _ _ _ _ _ _ cf ct (((he.trans eXf).trans e1).lowered' (he.trans eX) hlow) (hs.ext ((eXf.trans e1).lowered' eX (he.lowOK hlow))) hc hinv hct
    · ((try (conv => cbv)); repeat (refine brk_ok hA ?_; (try (conv => cbv))))
      refine ⟨ne_ok hA (by omega), wrote_no hA e1, ?_⟩
      ((try (conv => cbv)); repeat (refine brk_ok hA ?_; (try (conv => cbv))))
      rw [bt, e_lowered hA]
      have eY := ((he.trans eXf).trans e1).lowered' (he.trans eX) hlow
      have eYh := (eXf.trans e1).lowered' eX (he.lowOK hlow)
      have pY : Projs (h1.lowered X.low) a1 n l1 := ⟨p1.cells⟩
      generalize h1.lowered X.low = Y at *
      ((try (conv => cbv)); repeat (refine brk_ok hA ?_; (try (conv => cbv))))
      have inv1 := hinv.step hw.1 (by omega) st
      obtain ⟨v1, v2, v3⟩ := st.valid hinv.ok
      refine rcheck_ok hA (eY.lowOK hlow) (by omega) pY (checkQ_short v1) u1 s1 (fun r3 h3 hr3 e3 => ⟨_, rfl, ?_⟩)
      ((try (conv => cbv)); repeat (refine brk_ok hA ?_; (try (conv => cbv))))
      have e0Y := eY.trans e3
      refine br (r3 ≠ 0) (e_neq hA _ _) (fun d => absurd (by omega) d) (fun d => ?_) <;> (try (conv => cbv)) <;> repeat (refine brk_ok hA ?_; (try (conv => cbv)))
      refine br (ofNat n ≠ ofNat n) (e_neq hA _ _) (fun d => absurd rfl d) (fun d => ?_) <;> (try (conv => cbv)) <;> repeat (refine brk_ok hA ?_; (try (conv => cbv)))
      obtain ⟨b, o, nm, sh, us, wt, rfl, hb3, hp, hr9, f0, f1, f2, f3⟩ := (hs.ext (eYh.trans e3)).at (i := w) hw.1 hw.2
      have hwt : wt = (pj l' w).waiting := by rw [hp]
      refine ⟨b, o, rfl, in_ok hA hw.1 hw.2, ?_⟩
      ((try (conv => cbv)); repeat (refine brk_ok hA ?_; (try (conv => cbv))))
      refine ⟨wt, rd_fld hA f3, ?_⟩
      ((try (conv => cbv)); repeat (refine brk_ok hA ?_; (try (conv => cbv))))
      have hcs := count_step (l := l') (w := w) cf (s := srv) (by omega)
      have hbnd := inv1.bound hw.1 (by omega)
      have p3 := pY.ext e3
      rw [v2, hl'] at hbnd
      rw [hl'] at hcs
      obtain ⟨CN, hCN⟩ : ∃ x, x = cTo (nextC l' w srv cf) w n := ⟨_, rfl⟩
      rw [← hCN] at hcs hbnd
      refine br (wt = 0) (e_eql hA _ _) (fun d1 => ?_) (fun d1 => ?_) <;> (try (conv => cbv)) <;> repeat (refine brk_ok hA ?_; (try (conv => cbv)))
      · rw [if_pos (.inl (by omega))] at hcs
        subst hcs
        refine br (B < _) (e_gtr hA _ _) (fun d => absurd d (by omega)) (fun d => ?_) <;> (try (conv => cbv)) <;> repeat (refine brk_ok hA ?_; (try (conv => cbv)))
        rw [add64 hA (a := i) (b := 1) (by omega) (by omega)]
        exact ih c1 _ _ _ _ _ _ (nextC l' w srv cf) _ e0Y p3 cap1 inv1 hCN
      refine br (srv = w) (e_eql hA _ _) (fun d2 => ?_) (fun d2 => ?_) <;> (try (conv => cbv)) <;> repeat (refine brk_ok hA ?_; (try (conv => cbv)))
      · rw [if_pos (.inr d2)] at hcs
        subst hcs
        refine br (B < _) (e_gtr hA _ _) (fun d => absurd d (by omega)) (fun d => ?_) <;> (try (conv => cbv)) <;> repeat (refine brk_ok hA ?_; (try (conv => cbv)))
        rw [add64 hA (a := i) (b := 1) (by omega) (by omega)]
        exact ih c1 _ _ _ _ _ _ (nextC l' w srv cf) _ e0Y p3 cap1 inv1 hCN
      rw [if_neg (by omega)] at hcs
      have hct2 := hinv.bound hw.1 (by omega)
      rw [hl', ← hct] at hct2
      have hct3 := cTo_pos hinv.pos w n
      rw [← hct] at hct3
      refine br (0 ≤ srv) (e_geq hA _ _) (fun d3 => ?_) (fun d3 => ?_) <;> (try (conv => cbv)) <;> repeat (refine brk_ok hA ?_; (try (conv => cbv)))
      · rw [if_pos d3, ← hct] at hcs
        rw [add64 hA (a := ct) (b := 1) (by omega) (by omega), ← hcs]
        ((try (conv => cbv)); repeat (refine brk_ok hA ?_; (try (conv => cbv))))
        refine br (B < _) (e_gtr hA _ _) (fun d => absurd d (by omega)) (fun d => ?_) <;> (try (conv => cbv)) <;> repeat (refine brk_ok hA ?_; (try (conv => cbv)))
        rw [add64 hA (a := i) (b := 1) (by omega) (by omega)]
        exact ih c1 _ _ _ _ _ _ (nextC l' w srv cf) _ e0Y p3 cap1 inv1 hCN
      · rw [if_neg d3, ← hct] at hcs
        subst hcs
        refine br (B < _) (e_gtr hA _ _) (fun d => absurd d (by omega)) (fun d => ?_) <;> (try (conv => cbv)) <;> repeat (refine brk_ok hA ?_; (try (conv => cbv)))
        rw [add64 hA (a := i) (b := 1) (by omega) (by omega)]
        exact ih c1 _ _ _ _ _ _ (nextC l' w srv cf) _ e0Y p3 cap1 inv1 hCN
  · exact h0 h' _ he

theorem waits_ok {h : AHeap} (hlow : h.low ≤ h.next) {a : Option Addr} {n c : Nat} (hn : n ≤ 9223372036854775807) (hc : n ≤ capLow c) {l : List Proj} (hs : Projs h a n l) (nu de w : Int) {al : Option Addr} {m cl : Nat} {L : List Int} (hL : Ints h .i64 al m L) (hLw : ∀ x ∈ L, -9223372036854775808 ≤ x ∧ x < 9223372036854775808) {Q : Value → AHeap → Prop} (hQ : ∀ h', Ext h h' → Q (.bool true) h') : call 8 [.agg #[.slice a n c, .int .i64 nu, .int .i64 de], .int .i64 w, .slice al m cl] h Q := by
  have hl := hs.len
  have bt := e_bnot hA true
  refine hA.bodyR Try.func8 r8_ok (show prims _ _ _ = none from rfl) hlow ?_; (try (conv => cbv)); repeat (refine brk_ok hA ?_; (try (conv => cbv)))
  refine alive_ok hA ⟨_, rfl, ?_⟩
  ((try (conv => cbv)); repeat (refine brk_ok hA ?_; (try (conv => cbv))))
  refine great_ok hA hlow hn hs nu de ⟨_, rfl, ?_⟩ (fun hpq => ⟨_, rfl, ?_⟩)
  · ((try (conv => cbv)); repeat (refine brk_ok hA ?_; (try (conv => cbv))))
    exact hQ _ (.refl _)
  ((try (conv => cbv)); repeat (refine brk_ok hA ?_; (try (conv => cbv))))
  have hsh : shortN l := fun p hp' => by have := hpq.1 p hp'; omega
  have h20 := hpq.2
  refine rcheck_ok hA hlow (by omega) hs hsh nu de (fun r h1 hr e1 => ⟨_, rfl, ?_⟩)
  ((try (conv => cbv)); repeat (refine brk_ok hA ?_; (try (conv => cbv))))
  refine br (r ≠ 0) (e_neq hA _ _) (fun c1 => ?_) (fun c1 => ?_) <;> (try (conv => cbv)) <;> repeat (refine brk_ok hA ?_; (try (conv => cbv)))
  · exact hQ _ e1
  have hz : checkQ l nu de = 0 := by omega
  obtain ⟨h8, hnt, hl1, hd, hnu, hfit⟩ := checkQ_zero hz
  have hbd := checkQ_bounds hz
  refine br (w < 0) (e_lss hA _ _) (fun c2 => ?_) (fun c2 => ?_) <;> (try (conv => cbv)) <;> repeat (refine brk_ok hA ?_; (try (conv => cbv)))
  · exact hQ _ e1
  refine br ((n : Int) ≤ w) (by rw [e_geq hA, e_ofNat hA]) (fun c3 => ?_) (fun c3 => ?_) <;> (try (conv => cbv)) <;> repeat (refine brk_ok hA ?_; (try (conv => cbv)))
  · exact hQ _ e1
  refine br (60 < (m : Int)) (by rw [e_gtr hA, e_ofNat hA]) (fun c4 => ?_) (fun c4 => ?_) <;> (try (conv => cbv)) <;> repeat (refine brk_ok hA ?_; (try (conv => cbv)))
  · exact hQ _ e1
  rw [bt]
  ((try (conv => cbv)); repeat (refine brk_ok hA ?_; (try (conv => cbv))))
  refine bound_ok hA (e1.lowOK hlow) (by omega) hc (hs.ext e1) hsh nu de w (fun B e h2 e2 hE hB => ⟨_, _, rfl, ?_⟩)
  ((try (conv => cbv)); repeat (refine brk_ok hA ?_; (try (conv => cbv))))
  have e02 := e1.trans e2
  have hE0 : e = 0 := by rw [hE]; unfold bdE; rw [if_pos hz, if_neg (by omega)]
  have hB1 : B = bdTo l w l.length := by rw [hB]; unfold bdV; rw [if_pos (by rw [← hE]; exact hE0)]
  have hB2 := (bdTo_small hbd (i := w) (by omega) (by omega) l.length (Nat.le_refl _)).2
  refine br (e ≠ 0) (e_neq hA _ _) (fun d => absurd hE0 d) (fun d => ?_) <;> (try (conv => cbv)) <;> repeat (refine brk_ok hA ?_; (try (conv => cbv)))
  rw [e_bump hA]
  have e03 := e02.trans (Ext.bump h2 5)
  refine waits_loop hA (e03.lowOK hlow) hl ⟨by omega, by omega⟩ hB1 (by omega) (by omega) (hL.ext e03) hLw (fun h3 K e3 => ?_) 0 (by omega) (by omega) _ _ _ _ _ _ (fun _ => 0) _ (.refl _) (hs.ext e03) hc (Inv.start w hz) (cTo_zero (fun _ => rfl) w n).symm
  exact hQ _ (e03.trans e3)

end Go.Proofs.Ytlpnmdknlfmjaaa
