/-
  ASKING AND DROPPING: queue.Ask, Drop; fringeref42.Ask, Drop: what they return.
-/
import Derived.Test.YtlpnmdknlfmjaaaServes
namespace Go.Proofs.Ytlpnmdknlfmjaaa
open Go.Sim
set_option linter.unusedVariables false
set_option maxRecDepth 100000

def askU (nu de : Int) (p : Proj) : Int := if p.waiting = 0 then (if p.used < nu * p.share / de then nu * p.share / de else p.used) else p.used
def askP (nu de : Int) (p : Proj) (k : Int) : Proj := ⟨p.name, p.share, askU nu de p, p.waiting + k⟩
noncomputable def askE (l : List Proj) (nu de : Int) (nm : ByteArray) (k : Int) : Int :=
  if checkQ l nu de = 0 then (if findF l nm < 0 then 6 else if k < 1 then 2 else if 1000 - (pj l (findF l nm)).waiting < k then 4 else if 1000000 < askU nu de (pj l (findF l nm)) then 16 else 0) else checkQ l nu de
noncomputable def dropE (l : List Proj) (nu de : Int) (nm : ByteArray) : Int := if checkQ l nu de = 0 then (if findF l nm < 0 then 6 else 0) else checkQ l nu de
def dropP (p : Proj) : Proj := ⟨p.name, p.share, p.used, 0⟩

theorem findF_range (l : List Proj) (nm : ByteArray) : -1 ≤ findF l nm ∧ findF l nm < l.length := by
  unfold findF
  split
  · rename_i i hi
    rw [List.findIdx?_eq_some_iff_getElem] at hi
    obtain ⟨h1, _⟩ := hi
    omega
  · omega

theorem shares_small {nu sh de : Int} (h0 : 0 ≤ nu) (h1 : nu ≤ 1000000) (h2 : 1 ≤ sh) (h3 : sh ≤ 100) (h4 : 1 ≤ de) : 0 ≤ nu * sh ∧ nu * sh ≤ 100000000 ∧ 0 ≤ nu * sh / de ∧ nu * sh / de ≤ nu * sh := by
  have a := Int.mul_le_mul h1 h3 (by omega) (by omega)
  have b := Int.mul_nonneg h0 (by omega : 0 ≤ sh)
  exact ⟨b, by omega, Int.ediv_nonneg b (by omega), Int.ediv_le_self _ b⟩

variable {call : FuncId → List Value → AHeap → (Value → AHeap → Prop) → Prop}
  {head : FuncId → Nat → Nat → SS → (Exit → SS → Prop) → Prop}
  {arith : BinOp → IntKind → Int → Int → Int}
  {cmp : BinOp → Int → Int → Bool}
  {scmp : BinOp → ByteArray → ByteArray → Bool}
  {bnot : Bool → Bool}
  {bsame : Bool → Bool → Bool}
  {conv : IntKind → Int → Int}
  {neg : IntKind → Int → Int}
  {imax : Int → Int → Int}
  {imin : Int → Int → Int}
  {ofNat : Nat → Int}
  {slen : ByteArray → Int}
  {place : Nat → Int → Nat → Nat}
  {inR : Int → Nat → Prop}
  {nz : Int → Prop}
  {geZ : Int → Prop}
  {rd : AHeap → Nat → Nat → Nat → List Value → Prop}
  {wr : AHeap → Nat → Nat → List Value → AHeap → Prop}
  {push : AHeap → Nat → List Value → AHeap}
  {next : AHeap → Nat}
  {mkOK : Int → Int → Prop}
  {nat : Int → Nat}
  {zeros : List Value → Int → List Value}
  {sadd : ByteArray → ByteArray → (ByteArray → Prop) → Prop}
  {eqAgg : TypeId → Array Value → Array Value → (Bool → Prop) → Prop}
  {cut : Nat → Int → Prop}
  {slc : TypeId → Value → Option Value → Option Value → Option Value → (Option Addr → Nat → Nat → Prop) → Prop}
  {sslc : TypeId → ByteArray → Option Value → Option Value → (ByteArray → Prop) → Prop}
  {strAt : ByteArray → Int → (Int → Prop) → Prop}
  {part : TypeId → Array Value → Nat → Value → Prop}
  {app : List TypeId → List Value → AHeap → (Option Addr → Nat → Nat → AHeap → Prop) → Prop}
  {cpy : List TypeId → List Value → AHeap → (Int → AHeap → Prop) → Prop}
  {putAt : AHeap → Nat → Nat → List Value → AHeap}
  {fresh : AHeap → AHeap}
  {lowered : AHeap → AHeap → AHeap}
  {bump : AHeap → Nat → AHeap}
  {wrote : AHeap → AHeap → Bool}
  {addN : Nat → Nat → Nat}
  {lt : Nat → Nat → Prop}
  {ne : Nat → Nat → Prop}
  {fpAll : Bool → Bool → Bool → Nat → Nat → Prop}
  {brk : (Unit → Prop) → Prop}
  (hA : AOK progU hint prims ⟨call, head, arith, cmp, scmp, bnot, bsame, conv, neg, imax, imin, ofNat, slen, place, inR, nz, geZ, rd, wr, push, next, mkOK, nat, zeros, sadd, eqAgg, cut, slc, sslc, strAt, part, app, cpy, putAt, fresh, lowered, bump, wrote, addN, lt, ne, fpAll, brk⟩)
include hA


theorem ask_ok {h : AHeap} (hlow : h.low ≤ h.next) {a : Option Addr} {n c : Nat} (hn : n ≤ 1000000) (hc : n ≤ capLow c) {l : List Proj} (hs : Projs h a n l) (hsh : shortN l) (nu de : Int) (nm : ByteArray) (k : Int) {Q : Value → AHeap → Prop}
    (hbad : ∀ e h', Ext h h' → e = askE l nu de nm k → e ≠ 0 → Q (.tuple #[.agg #[.slice none 0 0, .int .i64 0, .int .i64 0], .int .i64 e]) h')
    (hok : ∀ b c' h', Ext h h' → h.next ≤ b → b < h'.next → Own h' b 4 (flatP (setP l (findF l nm) (askP nu de (pj l (findF l nm)) k))) → askE l nu de nm k = 0 → n ≤ capLow c' → Q (.tuple #[.agg #[.slice (some ⟨b, 0, none⟩) n c', .int .i64 nu, .int .i64 de], .int .i64 0]) h') :
    call 20 [.agg #[.slice a n c, .int .i64 nu, .int .i64 de], .string nm, .int .i64 k] h Q := by
  have hl := hs.len
  refine hA.bodyR Try.func20 r20_ok (show prims _ _ _ = none from rfl) hlow ?_; (try (conv => cbv)); repeat (refine brk_ok hA ?_; (try (conv => cbv)))
  refine check_ok hA hlow hn hc hs hsh nu de (fun r h1 hr e1 => ⟨_, rfl, ?_⟩)
  ((try (conv => cbv)); repeat (refine brk_ok hA ?_; (try (conv => cbv))))
  refine br (r ≠ 0) (e_neq hA _ _) (fun c1 => ?_) (fun c1 => ?_) <;> (try (conv => cbv)) <;> repeat (refine brk_ok hA ?_; (try (conv => cbv)))
  · exact hbad r h1 e1 (by unfold askE; rw [← hr, if_neg c1]) c1
  have hz : checkQ l nu de = 0 := by omega
  obtain ⟨h8, _, _, hd, hnu, _⟩ := checkQ_zero hz
  have hbd := checkQ_bounds hz
  refine find_ok hA (e1.lowOK hlow) hn (hs.ext e1) nm (fun i hi => ⟨_, rfl, ?_⟩)
  ((try (conv => cbv)); repeat (refine brk_ok hA ?_; (try (conv => cbv))))
  have rg := findF_range l nm
  rw [← hi] at rg
  refine br (i < 0) (e_lss hA _ _) (fun c2 => ?_) (fun c2 => ?_) <;> (try (conv => cbv)) <;> repeat (refine brk_ok hA ?_; (try (conv => cbv)))
  · exact hbad 6 h1 e1 (by unfold askE; rw [if_pos hz, ← hi, if_pos c2]) (by omega)
  refine br (k < 1) (e_lss hA _ _) (fun c3 => ?_) (fun c3 => ?_) <;> (try (conv => cbv)) <;> repeat (refine brk_ok hA ?_; (try (conv => cbv)))
  · exact hbad 2 h1 e1 (by unfold askE; rw [if_pos hz, ← hi, if_neg c2, if_pos c3]) (by omega)
  have i0 : 0 ≤ i := by omega
  have i1 : i < l.length := by omega
  obtain ⟨b, o, nm1, sh, us, wt, rfl, hb3, hp, hr9, f0, f1, f2, f3⟩ := (hs.ext e1).at (i := i) i0 (by omega)
  have hb9 := hbd _ (pj_mem l i0 i1)
  rw [hp] at hb9
  obtain ⟨q1, q2, q3, q4, q5, q6⟩ := hb9
  simp only at q1 q2 q3 q4 q5 q6
  obtain ⟨g1, g2, g3, g4⟩ := shares_small hnu.1 hnu.2 q1 q2 hd.1
  refine ⟨b, o, rfl, in_ok hA i0 (by omega), ?_⟩
  ((try (conv => cbv)); repeat (refine brk_ok hA ?_; (try (conv => cbv))))
  refine ⟨nm1, sh, us, wt, rd_ok hA hr9, ?_⟩
  ((try (conv => cbv)); repeat (refine brk_ok hA ?_; (try (conv => cbv))))
  refine br (1000 - wt < k) (by rw [e_gtr hA, sub64 hA (by omega) (by omega)]) (fun c4 => ?_) (fun c4 => ?_) <;> (try (conv => cbv)) <;> repeat (refine brk_ok hA ?_; (try (conv => cbv)))
  · exact hbad 4 h1 e1 (by unfold askE; rw [if_pos hz, ← hi, if_neg c2, if_neg c3, hp, if_pos c4]) (by omega)
  refine br (wt = 0) (e_eql hA _ _) (fun c5 => ?_) (fun c5 => ?_) <;> (try (conv => cbv)) <;> repeat (refine brk_ok hA ?_; (try (conv => cbv)))
  · refine ⟨nz_ok hA (by omega), ?_⟩
    ((try (conv => cbv)); repeat (refine brk_ok hA ?_; (try (conv => cbv))))
    rw [mul64 hA (by omega) (by omega), quo64 hA g1 (by omega) (by omega), e_bump hA]
    obtain ⟨U, hU⟩ : ∃ x, x = askU nu de ⟨nm1, sh, us, wt⟩ := ⟨_, rfl⟩
    have hUe : imax us (nu * sh / de) = U := by
      rw [e_imax hA, hU]; unfold askU; simp only [c5, if_true, gt_iff_lt]
    rw [hUe]
    have eX := e1.trans (Ext.bump h1 13)
    generalize h1.bump 13 = hX at *
    refine br (1000000 < U) (e_gtr hA _ _) (fun c7 => ?_) (fun c7 => ?_) <;> (try (conv => cbv)) <;> repeat (refine brk_ok hA ?_; (try (conv => cbv)))
    · exact hbad 16 hX eX (by unfold askE; rw [if_pos hz, ← hi, if_neg c2, if_neg c3, hp, if_neg c4, ← hU, if_pos c7]) (by omega)
    rw [add64 hA (by omega) (by omega)]
    refine copied_ok hA (eX.lowOK hlow) hn (hs.ext eX) nu de (fun pb h2 e2 hb0 hb1 op => ⟨_, _, _, _, _, rfl, ?_⟩)
    ((try (conv => cbv)); repeat (refine brk_ok hA ?_; (try (conv => cbv))))
    have nX := eX.next
    refine ⟨pb, 0, rfl, in_ok hA i0 (by omega), ?_⟩
    ((try (conv => cbv)); repeat (refine brk_ok hA ?_; (try (conv => cbv))))
    obtain ⟨h3, w3, op3, wr3⟩ := own_put op i0 i1 hp (askP nu de ⟨nm1, sh, us, wt⟩ k) 0 [.string nm1, .int .i64 sh, .int .i64 U, .int .i64 (wt + k)] (by simp) (by unfold askP; rw [← hU]; rfl)
    refine ⟨h3, wr_ok hA w3, ?_⟩
    ((try (conv => cbv)); repeat (refine brk_ok hA ?_; (try (conv => cbv))))
    have n3 := wr3.next
    exact hok pb n h3 (wr3.ext (eX.trans e2) (by omega)) (by omega) (by omega) (by rw [← hi, hp]; exact op3) (by unfold askE; rw [if_pos hz, ← hi, if_neg c2, if_neg c3, hp, if_neg c4, ← hU, if_neg c7]) (by unfold capLow slack; omega)
  · obtain ⟨U, hU'⟩ : ∃ x, x = us := ⟨_, rfl⟩
    have hU : U = askU nu de ⟨nm1, sh, us, wt⟩ := by unfold askU; rw [if_neg c5]; exact hU'
    rw [← hU']
    have eX := e1
    obtain ⟨hX, hhX⟩ : ∃ x, x = h1 := ⟨_, rfl⟩
    rw [← hhX] at eX ⊢
    refine br (1000000 < U) (e_gtr hA _ _) (fun c7 => ?_) (fun c7 => ?_) <;> (try (conv => cbv)) <;> repeat (refine brk_ok hA ?_; (try (conv => cbv)))
    · exact hbad 16 hX eX (by unfold askE; rw [if_pos hz, ← hi, if_neg c2, if_neg c3, hp, if_neg c4, ← hU, if_pos c7]) (by omega)
    rw [add64 hA (by omega) (by omega)]
    refine copied_ok hA (eX.lowOK hlow) hn (hs.ext eX) nu de (fun pb h2 e2 hb0 hb1 op => ⟨_, _, _, _, _, rfl, ?_⟩)
    ((try (conv => cbv)); repeat (refine brk_ok hA ?_; (try (conv => cbv))))
    have nX := eX.next
    refine ⟨pb, 0, rfl, in_ok hA i0 (by omega), ?_⟩
    ((try (conv => cbv)); repeat (refine brk_ok hA ?_; (try (conv => cbv))))
    obtain ⟨h3, w3, op3, wr3⟩ := own_put op i0 i1 hp (askP nu de ⟨nm1, sh, us, wt⟩ k) 0 [.string nm1, .int .i64 sh, .int .i64 U, .int .i64 (wt + k)] (by simp) (by unfold askP; rw [← hU]; rfl)
    refine ⟨h3, wr_ok hA w3, ?_⟩
    ((try (conv => cbv)); repeat (refine brk_ok hA ?_; (try (conv => cbv))))
    have n3 := wr3.next
    exact hok pb n h3 (wr3.ext (eX.trans e2) (by omega)) (by omega) (by omega) (by rw [← hi, hp]; exact op3) (by unfold askE; rw [if_pos hz, ← hi, if_neg c2, if_neg c3, hp, if_neg c4, ← hU, if_neg c7]) (by unfold capLow slack; omega)


theorem rask_ok {h : AHeap} (hlow : h.low ≤ h.next) {a : Option Addr} {n c : Nat} (hn : n ≤ 1000000) {l : List Proj} (hs : Projs h a n l) (hsh : shortN l) (nu de : Int) (nm : ByteArray) (k : Int) {Q : Value → AHeap → Prop}
    (hbad : ∀ e h', Ext h h' → e = askE l nu de nm k → e ≠ 0 → Q (.tuple #[.agg #[.slice none 0 0, .int .i64 0, .int .i64 0], .int .i64 e]) h')
    (hok : ∀ b c' h', Ext h h' → h.next ≤ b → b < h'.next → Own h' b 4 (flatP (setP l (findF l nm) (askP nu de (pj l (findF l nm)) k))) → askE l nu de nm k = 0 → Q (.tuple #[.agg #[.slice (some ⟨b, 0, none⟩) n c', .int .i64 nu, .int .i64 de], .int .i64 0]) h') :
    call 21 [.agg #[.slice a n c, .int .i64 nu, .int .i64 de], .string nm, .int .i64 k] h Q := by
  have hl := hs.len
  refine hA.bodyR Try.func21 r21_ok (show prims _ _ _ = none from rfl) hlow ?_; (try (conv => cbv)); repeat (refine brk_ok hA ?_; (try (conv => cbv)))
  refine rcheck_ok hA hlow hn hs hsh nu de (fun r h1 hr e1 => ⟨_, rfl, ?_⟩)
  ((try (conv => cbv)); repeat (refine brk_ok hA ?_; (try (conv => cbv))))
  refine br (r ≠ 0) (e_neq hA _ _) (fun c1 => ?_) (fun c1 => ?_) <;> (try (conv => cbv)) <;> repeat (refine brk_ok hA ?_; (try (conv => cbv)))
  · exact hbad r h1 e1 (by unfold askE; rw [← hr, if_neg c1]) c1
  have hz : checkQ l nu de = 0 := by omega
  obtain ⟨h8, _, _, hd, hnu, _⟩ := checkQ_zero hz
  have hbd := checkQ_bounds hz
  refine index_ok hA (e1.lowOK hlow) hn (hs.ext e1) nm nu de (fun i hi => ⟨_, rfl, ?_⟩)
  ((try (conv => cbv)); repeat (refine brk_ok hA ?_; (try (conv => cbv))))
  have rg := findF_range l nm
  rw [← hi] at rg
  refine br (i < 0) (e_lss hA _ _) (fun c2 => ?_) (fun c2 => ?_) <;> (try (conv => cbv)) <;> repeat (refine brk_ok hA ?_; (try (conv => cbv)))
  · exact hbad 6 h1 e1 (by unfold askE; rw [if_pos hz, ← hi, if_pos c2]) (by omega)
  refine br (k < 1) (e_lss hA _ _) (fun c3 => ?_) (fun c3 => ?_) <;> (try (conv => cbv)) <;> repeat (refine brk_ok hA ?_; (try (conv => cbv)))
  · exact hbad 2 h1 e1 (by unfold askE; rw [if_pos hz, ← hi, if_neg c2, if_pos c3]) (by omega)
  have i0 : 0 ≤ i := by omega
  have i1 : i < l.length := by omega
  obtain ⟨b, o, nm1, sh, us, wt, rfl, hb3, hp, hr9, f0, f1, f2, f3⟩ := (hs.ext e1).at (i := i) i0 (by omega)
  have hb9 := hbd _ (pj_mem l i0 i1)
  rw [hp] at hb9
  obtain ⟨q1, q2, q3, q4, q5, q6⟩ := hb9
  simp only at q1 q2 q3 q4 q5 q6
  obtain ⟨g1, g2, g3, g4⟩ := shares_small hnu.1 hnu.2 q1 q2 hd.1
  refine ⟨b, o, rfl, in_ok hA i0 (by omega), ?_⟩
  ((try (conv => cbv)); repeat (refine brk_ok hA ?_; (try (conv => cbv))))
  refine ⟨wt, rd_fld hA f3, ?_⟩
  ((try (conv => cbv)); repeat (refine brk_ok hA ?_; (try (conv => cbv))))
  refine br (1000 - wt < k) (by rw [e_gtr hA, sub64 hA (by omega) (by omega)]) (fun c4 => ?_) (fun c4 => ?_) <;> (try (conv => cbv)) <;> repeat (refine brk_ok hA ?_; (try (conv => cbv)))
  · exact hbad 4 h1 e1 (by unfold askE; rw [if_pos hz, ← hi, if_neg c2, if_neg c3, hp, if_pos c4]) (by omega)
  refine twin_ok hA (e1.lowOK hlow) hn (hs.ext e1) nu de (fun pb c' h2 e2 hb0 hb1 op => ⟨_, _, _, _, _, rfl, ?_⟩)
  ((try (conv => cbv)); repeat (refine brk_ok hA ?_; (try (conv => cbv))))
  have n1 := e1.next
  refine ⟨pb, 0, rfl, in_ok hA i0 (by omega), ?_⟩
  ((try (conv => cbv)); repeat (refine brk_ok hA ?_; (try (conv => cbv))))
  refine ⟨nm1, sh, us, wt, rd_ok hA (own_at op i0 i1 hp 0 4 (by omega)), ?_⟩
  ((try (conv => cbv)); repeat (refine brk_ok hA ?_; (try (conv => cbv))))
  refine br (wt = 0) (e_eql hA _ _) (fun c5 => ?_) (fun c5 => ?_) <;> (try (conv => cbv)) <;> repeat (refine brk_ok hA ?_; (try (conv => cbv)))
  · refine ⟨nz_ok hA (by omega), ?_⟩
    ((try (conv => cbv)); repeat (refine brk_ok hA ?_; (try (conv => cbv))))
    rw [mul64 hA (by omega) (by omega), quo64 hA g1 (by omega) (by omega), e_bump hA]
    obtain ⟨U, hU⟩ : ∃ x, x = askU nu de ⟨nm1, sh, us, wt⟩ := ⟨_, rfl⟩
    have hUe : imax us (nu * sh / de) = U := by
      rw [e_imax hA, hU]; unfold askU; simp only [c5, if_true, gt_iff_lt]
    rw [hUe]
    have eX2 := Ext.bump h2 13
    have eX := (e1.trans e2).trans eX2
    have opX := op.ext eX2 hb1
    generalize h2.bump 13 = hX at *
    rw [add64 hA (by omega) (by omega)]
    refine ⟨pb, 0, rfl, in_ok hA i0 (by omega), ?_⟩
    ((try (conv => cbv)); repeat (refine brk_ok hA ?_; (try (conv => cbv))))
    obtain ⟨h3, w3, op3, wr3⟩ := own_put opX i0 i1 hp (askP nu de ⟨nm1, sh, us, wt⟩ k) 0 [.string nm1, .int .i64 sh, .int .i64 U, .int .i64 (wt + k)] (by simp) (by unfold askP; rw [← hU]; rfl)
    refine ⟨h3, wr_ok hA w3, ?_⟩
    ((try (conv => cbv)); repeat (refine brk_ok hA ?_; (try (conv => cbv))))
    have n3 := wr3.next
    have nX := eX2.next
    have e3 : Ext h h3 := wr3.ext eX (by omega)
    refine br (1000000 < U) (e_gtr hA _ _) (fun c7 => ?_) (fun c7 => ?_) <;> (try (conv => cbv)) <;> repeat (refine brk_ok hA ?_; (try (conv => cbv)))
    · exact hbad 16 h3 e3 (by unfold askE; rw [if_pos hz, ← hi, if_neg c2, if_neg c3, hp, if_neg c4, ← hU, if_pos c7]) (by omega)
    exact hok pb c' h3 e3 (by omega) (by omega) (by rw [← hi, hp]; exact op3) (by unfold askE; rw [if_pos hz, ← hi, if_neg c2, if_neg c3, hp, if_neg c4, ← hU, if_neg c7])
  · obtain ⟨U, hU'⟩ : ∃ x, x = us := ⟨_, rfl⟩
    have hU : U = askU nu de ⟨nm1, sh, us, wt⟩ := by unfold askU; rw [if_neg c5]; exact hU'
    rw [← hU']
    have eX2 := Ext.refl h2
    have eX := e1.trans e2
    have opX := op
    rw [add64 hA (by omega) (by omega)]
    refine ⟨pb, 0, rfl, in_ok hA i0 (by omega), ?_⟩
    ((try (conv => cbv)); repeat (refine brk_ok hA ?_; (try (conv => cbv))))
    obtain ⟨h3, w3, op3, wr3⟩ := own_put opX i0 i1 hp (askP nu de ⟨nm1, sh, us, wt⟩ k) 0 [.string nm1, .int .i64 sh, .int .i64 U, .int .i64 (wt + k)] (by simp) (by unfold askP; rw [← hU]; rfl)
    refine ⟨h3, wr_ok hA w3, ?_⟩
    ((try (conv => cbv)); repeat (refine brk_ok hA ?_; (try (conv => cbv))))
    have n3 := wr3.next
    have nX := eX2.next
    have e3 : Ext h h3 := wr3.ext eX (by omega)
    refine br (1000000 < U) (e_gtr hA _ _) (fun c7 => ?_) (fun c7 => ?_) <;> (try (conv => cbv)) <;> repeat (refine brk_ok hA ?_; (try (conv => cbv)))
    · exact hbad 16 h3 e3 (by unfold askE; rw [if_pos hz, ← hi, if_neg c2, if_neg c3, hp, if_neg c4, ← hU, if_pos c7]) (by omega)
    exact hok pb c' h3 e3 (by omega) (by omega) (by rw [← hi, hp]; exact op3) (by unfold askE; rw [if_pos hz, ← hi, if_neg c2, if_neg c3, hp, if_neg c4, ← hU, if_neg c7])


theorem drop_ok {h : AHeap} (hlow : h.low ≤ h.next) {a : Option Addr} {n c : Nat} (hn : n ≤ 1000000) (hc : n ≤ capLow c) {l : List Proj} (hs : Projs h a n l) (hsh : shortN l) (nu de : Int) (nm : ByteArray) {Q : Value → AHeap → Prop}
    (hbad : ∀ e h', Ext h h' → e = dropE l nu de nm → e ≠ 0 → Q (.tuple #[.agg #[.slice none 0 0, .int .i64 0, .int .i64 0], .int .i64 e]) h')
    (hok : ∀ b c' h', Ext h h' → h.next ≤ b → b < h'.next → Own h' b 4 (flatP (setP l (findF l nm) (dropP (pj l (findF l nm))))) → dropE l nu de nm = 0 → n ≤ capLow c' → Q (.tuple #[.agg #[.slice (some ⟨b, 0, none⟩) n c', .int .i64 nu, .int .i64 de], .int .i64 0]) h') :
    call 22 [.agg #[.slice a n c, .int .i64 nu, .int .i64 de], .string nm] h Q := by
  have hl := hs.len
  refine hA.bodyR Try.func22 r22_ok (show prims _ _ _ = none from rfl) hlow ?_; (try (conv => cbv)); repeat (refine brk_ok hA ?_; (try (conv => cbv)))
  refine check_ok hA hlow hn hc hs hsh nu de (fun r h1 hr e1 => ⟨_, rfl, ?_⟩)
  ((try (conv => cbv)); repeat (refine brk_ok hA ?_; (try (conv => cbv))))
  refine br (r ≠ 0) (e_neq hA _ _) (fun c1 => ?_) (fun c1 => ?_) <;> (try (conv => cbv)) <;> repeat (refine brk_ok hA ?_; (try (conv => cbv)))
  · exact hbad r h1 e1 (by unfold dropE; rw [← hr, if_neg c1]) c1
  have hz : checkQ l nu de = 0 := by omega
  obtain ⟨h8, _, _, hd, hnu, _⟩ := checkQ_zero hz
  refine find_ok hA (e1.lowOK hlow) hn (hs.ext e1) nm (fun i hi => ⟨_, rfl, ?_⟩)
  ((try (conv => cbv)); repeat (refine brk_ok hA ?_; (try (conv => cbv))))
  have rg := findF_range l nm
  rw [← hi] at rg
  refine br (i < 0) (e_lss hA _ _) (fun c2 => ?_) (fun c2 => ?_) <;> (try (conv => cbv)) <;> repeat (refine brk_ok hA ?_; (try (conv => cbv)))
  · exact hbad 6 h1 e1 (by unfold dropE; rw [if_pos hz, ← hi, if_pos c2]) (by omega)
  have i0 : 0 ≤ i := by omega
  have i1 : i < l.length := by omega
  have n1 := e1.next
  obtain ⟨⟨nm1, sh, us, wt⟩, hp⟩ : ∃ p, pj l i = p := ⟨_, rfl⟩
  refine copied_ok hA (e1.lowOK hlow) hn (hs.ext e1) nu de (fun pb h2 e2 hb0 hb1 op => ⟨_, _, _, _, _, rfl, ?_⟩)
  ((try (conv => cbv)); repeat (refine brk_ok hA ?_; (try (conv => cbv))))
  refine ⟨pb, 0, rfl, in_ok hA i0 (by omega), ?_⟩
  ((try (conv => cbv)); repeat (refine brk_ok hA ?_; (try (conv => cbv))))
  obtain ⟨h3, w3, op3, wr3⟩ := own_put op i0 i1 hp ⟨nm1, sh, us, 0⟩ 3 [.int .i64 0] (by simp) rfl
  refine ⟨h3, wr_fld hA w3, ?_⟩
  ((try (conv => cbv)); repeat (refine brk_ok hA ?_; (try (conv => cbv))))
  have n3 := wr3.next
  exact hok pb n h3 (wr3.ext (e1.trans e2) (by omega)) (by omega) (by omega) (by rw [← hi, hp]; exact op3) (by unfold dropE; rw [if_pos hz, ← hi, if_neg c2]) (by unfold capLow slack; omega)

theorem rdrop_ok {h : AHeap} (hlow : h.low ≤ h.next) {a : Option Addr} {n c : Nat} (hn : n ≤ 1000000) {l : List Proj} (hs : Projs h a n l) (hsh : shortN l) (nu de : Int) (nm : ByteArray) {Q : Value → AHeap → Prop}
    (hbad : ∀ e h', Ext h h' → e = dropE l nu de nm → e ≠ 0 → Q (.tuple #[.agg #[.slice none 0 0, .int .i64 0, .int .i64 0], .int .i64 e]) h')
    (hok : ∀ b c' h', Ext h h' → h.next ≤ b → b < h'.next → Own h' b 4 (flatP (setP l (findF l nm) (dropP (pj l (findF l nm))))) → dropE l nu de nm = 0 → Q (.tuple #[.agg #[.slice (some ⟨b, 0, none⟩) n c', .int .i64 nu, .int .i64 de], .int .i64 0]) h') :
    call 23 [.agg #[.slice a n c, .int .i64 nu, .int .i64 de], .string nm] h Q := by
  have hl := hs.len
  refine hA.bodyR Try.func23 r23_ok (show prims _ _ _ = none from rfl) hlow ?_; (try (conv => cbv)); repeat (refine brk_ok hA ?_; (try (conv => cbv)))
  refine rcheck_ok hA hlow hn hs hsh nu de (fun r h1 hr e1 => ⟨_, rfl, ?_⟩)
  ((try (conv => cbv)); repeat (refine brk_ok hA ?_; (try (conv => cbv))))
  refine br (r ≠ 0) (e_neq hA _ _) (fun c1 => ?_) (fun c1 => ?_) <;> (try (conv => cbv)) <;> repeat (refine brk_ok hA ?_; (try (conv => cbv)))
  · exact hbad r h1 e1 (by unfold dropE; rw [← hr, if_neg c1]) c1
  have hz : checkQ l nu de = 0 := by omega
  obtain ⟨h8, _, _, hd, hnu, _⟩ := checkQ_zero hz
  refine index_ok hA (e1.lowOK hlow) hn (hs.ext e1) nm nu de (fun i hi => ⟨_, rfl, ?_⟩)
  ((try (conv => cbv)); repeat (refine brk_ok hA ?_; (try (conv => cbv))))
  have rg := findF_range l nm
  rw [← hi] at rg
  refine br (i < 0) (e_lss hA _ _) (fun c2 => ?_) (fun c2 => ?_) <;> (try (conv => cbv)) <;> repeat (refine brk_ok hA ?_; (try (conv => cbv)))
  · exact hbad 6 h1 e1 (by unfold dropE; rw [if_pos hz, ← hi, if_pos c2]) (by omega)
  have i0 : 0 ≤ i := by omega
  have i1 : i < l.length := by omega
  have n1 := e1.next
  obtain ⟨⟨nm1, sh, us, wt⟩, hp⟩ : ∃ p, pj l i = p := ⟨_, rfl⟩
  refine twin_ok hA (e1.lowOK hlow) hn (hs.ext e1) nu de (fun pb c' h2 e2 hb0 hb1 op => ⟨_, _, _, _, _, rfl, ?_⟩)
  ((try (conv => cbv)); repeat (refine brk_ok hA ?_; (try (conv => cbv))))
  refine ⟨pb, 0, rfl, in_ok hA i0 (by omega), ?_⟩
  ((try (conv => cbv)); repeat (refine brk_ok hA ?_; (try (conv => cbv))))
  obtain ⟨h3, w3, op3, wr3⟩ := own_put op i0 i1 hp ⟨nm1, sh, us, 0⟩ 3 [.int .i64 0] (by simp) rfl
  refine ⟨h3, wr_fld hA w3, ?_⟩
  ((try (conv => cbv)); repeat (refine brk_ok hA ?_; (try (conv => cbv))))
  have n3 := wr3.next
  exact hok pb c' h3 (wr3.ext (e1.trans e2) (by omega)) (by omega) (by omega) (by rw [← hi, hp]; exact op3) (by unfold dropE; rw [if_pos hz, ← hi, if_neg c2])

end Go.Proofs.Ytlpnmdknlfmjaaa
