/-
  fringelaw42.QueueLevel in the abstract machine: true.
-/
import Derived.Test.YtlpnmdknlfmjaaaLevelLaw
namespace Go.Proofs.Ytlpnmdknlfmjaaa
open Go.Sim
set_option linter.unusedVariables false
set_option maxRecDepth 100000

variable {call : FuncId → List Value → AHeap → (Value → AHeap → Prop) → Prop}
  {head : FuncId → Nat → Nat → SS → (Exit → SS → Prop) → Prop}
  {arith : BinOp → IntKind → Int → Int → Int}
  {cmp : BinOp → Int → Int → Bool}
  {scmp : BinOp → ByteArray → ByteArray → Bool}
  {bnot : Bool → Bool}
  {bsame : Bool → Bool → Bool}
  {conv : IntKind → Int → Int}
  {neg : IntKind → Int → Int}
  {imax : Int → Int → Int}
  {imin : Int → Int → Int}
  {ofNat : Nat → Int}
  {slen : ByteArray → Int}
  {place : Nat → Int → Nat → Nat}
  {inR : Int → Nat → Prop}
  {nz : Int → Prop}
  {geZ : Int → Prop}
  {rd : AHeap → Nat → Nat → Nat → List Value → Prop}
  {wr : AHeap → Nat → Nat → List Value → AHeap → Prop}
  {push : AHeap → Nat → List Value → AHeap}
  {next : AHeap → Nat}
  {mkOK : Int → Int → Prop}
  {nat : Int → Nat}
  {zeros : List Value → Int → List Value}
  {sadd : ByteArray → ByteArray → (ByteArray → Prop) → Prop}
  {eqAgg : TypeId → Array Value → Array Value → (Bool → Prop) → Prop}
  {cut : Nat → Int → Prop}
  {slc : TypeId → Value → Option Value → Option Value → Option Value → (Option Addr → Nat → Nat → Prop) → Prop}
  {sslc : TypeId → ByteArray → Option Value → Option Value → (ByteArray → Prop) → Prop}
  {strAt : ByteArray → Int → (Int → Prop) → Prop}
  {part : TypeId → Array Value → Nat → Value → Prop}
  {app : List TypeId → List Value → AHeap → (Option Addr → Nat → Nat → AHeap → Prop) → Prop}
  {cpy : List TypeId → List Value → AHeap → (Int → AHeap → Prop) → Prop}
  {putAt : AHeap → Nat → Nat → List Value → AHeap}
  {fresh : AHeap → AHeap}
  {lowered : AHeap → AHeap → AHeap}
  {bump : AHeap → Nat → AHeap}
  {wrote : AHeap → AHeap → Bool}
  {addN : Nat → Nat → Nat}
  {lt : Nat → Nat → Prop}
  {ne : Nat → Nat → Prop}
  {fpAll : Bool → Bool → Bool → Nat → Nat → Prop}
  {brk : (Unit → Prop) → Prop}
  (hA : AOK progU hint prims ⟨call, head, arith, cmp, scmp, bnot, bsame, conv, neg, imax, imin, ofNat, slen, place, inR, nz, geZ, rd, wr, push, next, mkOK, nat, zeros, sadd, eqAgg, cut, slc, sslc, strAt, part, app, cpy, putAt, fresh, lowered, bump, wrote, addN, lt, ne, fpAll, brk⟩)
include hA

theorem alive_ok {h : AHeap} {Q : Value → AHeap → Prop} (hQ : Q (.bool true) h) : call 28 [] h Q := hA.prim (v := .bool true) (h' := h) rfl hQ




theorem level_ok {h : AHeap} (hlow : h.low ≤ h.next) {a : Option Addr} {n c : Nat} (hn : n ≤ 9223372036854775807) (hc : n ≤ capLow c) {l : List Proj} (hs : Projs h a n l) (nu de i k : Int) (hk : -9223372036854775808 ≤ k ∧ k < 9223372036854775808) {Q : Value → AHeap → Prop} (hQ : ∀ h', Ext h h' → Q (.bool true) h') : call 9 [.agg #[.slice a n c, .int .i64 nu, .int .i64 de], .int .i64 i, .int .i64 k] h Q := by
  have hl := hs.len
  have bt := e_bnot hA true
  refine hA.bodyR Try.func9 r9_ok (show prims _ _ _ = none from rfl) hlow ?_; (try (conv => cbv)); repeat (refine brk_ok hA ?_; (try (conv => cbv)))
  refine alive_ok hA ⟨_, rfl, ?_⟩
  ((try (conv => cbv)); repeat (refine brk_ok hA ?_; (try (conv => cbv))))
  refine great_ok hA hlow hn hs nu de ⟨_, rfl, ?_⟩ (fun hpq => ⟨_, rfl, ?_⟩)
  · ((try (conv => cbv)); repeat (refine brk_ok hA ?_; (try (conv => cbv))))
    exact hQ _ (.refl _)
  ((try (conv => cbv)); repeat (refine brk_ok hA ?_; (try (conv => cbv))))
  have hsh : shortN l := fun p hp' => by have := hpq.1 p hp'; omega
  have h20 := hpq.2
  refine rcheck_ok hA hlow (by omega) hs hsh nu de (fun r h1 hr e1 => ⟨_, rfl, ?_⟩)
  ((try (conv => cbv)); repeat (refine brk_ok hA ?_; (try (conv => cbv))))
  refine br (r ≠ 0) (e_neq hA _ _) (fun c1 => ?_) (fun c1 => ?_) <;> (try (conv => cbv)) <;> repeat (refine brk_ok hA ?_; (try (conv => cbv)))
  · exact hQ _ e1
  have hz : checkQ l nu de = 0 := by omega
  obtain ⟨h8, hnt, hl1, hd, hnu, hfit⟩ := checkQ_zero hz
  have hbd := checkQ_bounds hz
  refine br (i < 0) (e_lss hA _ _) (fun c2 => ?_) (fun c2 => ?_) <;> (try (conv => cbv)) <;> repeat (refine brk_ok hA ?_; (try (conv => cbv)))
  · exact hQ _ e1
  refine br ((n : Int) ≤ i) (by rw [e_geq hA, e_ofNat hA]) (fun c3 => ?_) (fun c3 => ?_) <;> (try (conv => cbv)) <;> repeat (refine brk_ok hA ?_; (try (conv => cbv)))
  · exact hQ _ e1
  rw [bt]
  ((try (conv => cbv)); repeat (refine brk_ok hA ?_; (try (conv => cbv))))
  have i0 : 0 ≤ i := by omega
  have i1 : i < l.length := by omega
  refine nextQ_ok hA (e1.lowOK hlow) (by omega) hc (hs.ext e1) hsh nu de (fun e h2 e2 hE hE0 => ⟨_, _, _, _, _, _, _, rfl, ?_⟩) (fun nb j u s h2 e2 b0 b1 on hE hj hu hs' => ⟨_, _, _, _, _, _, _, rfl, ?_⟩)
  · ((try (conv => cbv)); repeat (refine brk_ok hA ?_; (try (conv => cbv))))
    refine br (e = 0) (e_eql hA _ _) (fun d => absurd d hE0) (fun d => ?_) <;> (try (conv => cbv)) <;> repeat (refine brk_ok hA ?_; (try (conv => cbv)))
    have eX := e1.trans e2
    obtain ⟨hX, hhX⟩ : ∃ x, x = h2 := ⟨_, rfl⟩
    rw [← hhX] at eX ⊢
    obtain ⟨b, o, nm, sh, us, wt, rfl, hb3, hp, hr9, f0, f1, f2, f3⟩ := (hs.ext eX).at (i := i) i0 (by omega)
    have fi := hfit i i0 i1
    have fself := find_self hnt i0 i1
    have sself := setP_self i0 i1
    rw [hp] at fi fself sself
    simp only at fself
    obtain ⟨u1, u2, u3, u4⟩ := askU_spec hd.1 fi
    obtain ⟨⟨pn, p1, p2, p3, p4, p5, p6⟩, _, _⟩ := id fi
    simp only at p1 p2 p3 p4 p5 p6 u1 u2 u3 u4
    refine ⟨b, o, rfl, in_ok hA i0 (by omega), ?_⟩
    ((try (conv => cbv)); repeat (refine brk_ok hA ?_; (try (conv => cbv))))
    refine ⟨nm, sh, us, wt, rd_ok hA hr9, ?_⟩
    ((try (conv => cbv)); repeat (refine brk_ok hA ?_; (try (conv => cbv))))
    refine drop_ok hA (eX.lowOK hlow) (by omega) hc (hs.ext eX) hsh nu de nm (fun e h3 e3 hE hE0 => ?_) (fun db dc h3 e3 d0 d1 od hE _ => ⟨_, _, _, _, _, _, rfl, ?_⟩)
    · exact absurd (by rw [hE]; unfold dropE; rw [if_pos hz, fself, if_neg (by omega)]) hE0
    ((try (conv => cbv)); repeat (refine brk_ok hA ?_; (try (conv => cbv))))
    rw [fself, hp] at od
    have dv : checkQ (setP l i (dropP ⟨nm, sh, us, wt⟩)) nu de = 0 := set_valid hz i0 i1 (by rw [hp]; rfl) (drop_fits fi)
    have e03 := eX.trans e3
    have pd := od.projs' d1 (n := n) (by rw [setP_len]; exact hl)
    refine br ((0 : Int) ≠ 0) (e_neq hA _ _) (fun d => absurd rfl d) (fun d => ?_) <;> (try (conv => cbv)) <;> repeat (refine brk_ok hA ?_; (try (conv => cbv)))
    refine rcheck_ok hA (e03.lowOK hlow) (by omega) pd (checkQ_short dv) nu de (fun r4 h4 hr4 e4 => ⟨_, rfl, ?_⟩)
    ((try (conv => cbv)); repeat (refine brk_ok hA ?_; (try (conv => cbv))))
    refine br (r4 ≠ 0) (e_neq hA _ _) (fun d => absurd (by omega) d) (fun d => ?_) <;> (try (conv => cbv)) <;> repeat (refine brk_ok hA ?_; (try (conv => cbv)))
    refine br (ofNat n ≠ ofNat n) (e_neq hA _ _) (fun d => absurd rfl d) (fun d => ?_) <;> (try (conv => cbv)) <;> repeat (refine brk_ok hA ?_; (try (conv => cbv)))
    have od4 := od.ext e4 d1
    have l3 := setP_len l i (dropP ⟨nm, sh, us, wt⟩)
    refine ⟨db, 0, rfl, in_ok hA i0 (by omega), ?_⟩
    ((try (conv => cbv)); repeat (refine brk_ok hA ?_; (try (conv => cbv))))
    refine ⟨0, rd_fld hA (own_at od4 i0 (by omega) (pj_self i0 i1) 3 1 (by omega)), ?_⟩
    ((try (conv => cbv)); repeat (refine brk_ok hA ?_; (try (conv => cbv))))
    refine br ((0 : Int) ≠ 0) (e_neq hA _ _) (fun d => absurd rfl d) (fun d => ?_) <;> (try (conv => cbv)) <;> repeat (refine brk_ok hA ?_; (try (conv => cbv)))
    obtain ⟨h5, w5, o5, wr5⟩ := own_put od4 i0 (by omega) (pj_self i0 i1) ⟨nm, sh, us, wt⟩ 3 [.int .i64 wt] (by simp) rfl
    rw [setP_set, sself] at o5
    have nX := eX.next
    have n4 := e4.next
    have n5 := wr5.next
    have e04 := e03.trans e4
    have e05 : Ext h h5 := wr5.ext e04 (by omega)
    refine ⟨db, 0, rfl, in_ok hA i0 (by omega), ?_⟩
    ((try (conv => cbv)); repeat (refine brk_ok hA ?_; (try (conv => cbv))))
    refine ⟨h5, wr_fld hA w5, ?_⟩
    ((try (conv => cbv)); repeat (refine brk_ok hA ?_; (try (conv => cbv))))
    refine same_ok hA (e05.lowOK hlow) (by omega) (o5.projs' (by omega) hl) (hs.ext e05) nu de nu de (fun r6 h6 e6 hr6 => ⟨_, rfl, ?_⟩)
    have q6 : r6 = true := hr6.2 ⟨rfl, rfl, rfl⟩
    subst q6
    ((try (conv => cbv)); repeat (refine brk_ok hA ?_; (try (conv => cbv))))
    rw [bt]
    ((try (conv => cbv)); repeat (refine brk_ok hA ?_; (try (conv => cbv))))
    have e06 := e05.trans e6
    refine ask_ok hA (e06.lowOK hlow) (by omega) hc (hs.ext e06) hsh nu de nm k (fun e h7 e7 hE hE0 => ⟨_, _, _, _, _, _, rfl, ?_⟩) (fun ab ac h7 e7 a0 a1 oa hE _ => ⟨_, _, _, _, _, _, rfl, ?_⟩)
    · ((try (conv => cbv)); repeat (refine brk_ok hA ?_; (try (conv => cbv))))
      refine br (e ≠ 0) (e_neq hA _ _) (fun d => ?_) (fun d => absurd hE0 d) <;> (try (conv => cbv)) <;> repeat (refine brk_ok hA ?_; (try (conv => cbv)))
      have hv : e = 2 ∨ e = 4 ∨ e = 16 := by
        rw [hE]; unfold askE; rw [if_pos hz, fself, if_neg (by omega)]
        rw [hE] at hE0; unfold askE at hE0; rw [if_pos hz, fself, if_neg (by omega)] at hE0
        split
        · exact .inl rfl
        · rename_i g1
          rw [if_neg g1] at hE0
          split
          · exact .inr (.inl rfl)
          · rename_i g2
            rw [if_neg g2] at hE0
            split
            · exact .inr (.inr rfl)
            · rename_i g3; rw [if_neg g3] at hE0; exact absurd rfl hE0
      refine br (e = 2) (e_eql hA _ _) (fun d => ?_) (fun d2 => ?_) <;> (try (conv => cbv)) <;> repeat (refine brk_ok hA ?_; (try (conv => cbv)))
      · exact hQ _ (e06.trans e7)
      refine br (e = 4) (e_eql hA _ _) (fun d => ?_) (fun d4 => ?_) <;> (try (conv => cbv)) <;> repeat (refine brk_ok hA ?_; (try (conv => cbv)))
      · exact hQ _ (e06.trans e7)
      have h16 : cmp .eql e 16 = true := by rw [e_eql hA]; simp; omega
      rw [h16]
      ((try (conv => cbv)); repeat (refine brk_ok hA ?_; (try (conv => cbv))))
      exact hQ _ (e06.trans e7)
    ((try (conv => cbv)); repeat (refine brk_ok hA ?_; (try (conv => cbv))))
    obtain ⟨_, _, k1, k2, k3⟩ := askE_zero hE
    rw [fself, hp] at oa k2 k3
    simp only at k2
    have av : checkQ (setP l i (askP nu de ⟨nm, sh, us, wt⟩ k)) nu de = 0 := set_valid hz i0 i1 (by rw [hp]; rfl) (ask_fits hd.1 fi k1 k2 k3)
    have e07 := e06.trans e7
    have n6 := e06.next
    have la := setP_len l i (askP nu de ⟨nm, sh, us, wt⟩ k)
    have pa := oa.projs' a1 (n := n) (by rw [setP_len]; exact hl)
    refine br ((0 : Int) ≠ 0) (e_neq hA _ _) (fun d => absurd rfl d) (fun d => ?_) <;> (try (conv => cbv)) <;> repeat (refine brk_ok hA ?_; (try (conv => cbv)))
    refine rcheck_ok hA (e07.lowOK hlow) (by omega) pa (checkQ_short av) nu de (fun r8 h8 hr8 e8 => ⟨_, rfl, ?_⟩)
    ((try (conv => cbv)); repeat (refine brk_ok hA ?_; (try (conv => cbv))))
    refine br (r8 ≠ 0) (e_neq hA _ _) (fun d => absurd (by omega) d) (fun d => ?_) <;> (try (conv => cbv)) <;> repeat (refine brk_ok hA ?_; (try (conv => cbv)))
    refine br (ofNat n ≠ ofNat n) (e_neq hA _ _) (fun d => absurd rfl d) (fun d => ?_) <;> (try (conv => cbv)) <;> repeat (refine brk_ok hA ?_; (try (conv => cbv)))
    have oa8 := oa.ext e8 a1
    obtain ⟨U, hU⟩ : ∃ x, x = askU nu de ⟨nm, sh, us, wt⟩ := ⟨_, rfl⟩
    rw [← hU] at u1 u2 u3 u4 k3
    have hpa : pj (setP l i (askP nu de ⟨nm, sh, us, wt⟩ k)) i = ⟨nm, sh, U, wt + k⟩ := by rw [pj_self i0 i1]; unfold askP; rw [← hU]
    refine ⟨ab, 0, rfl, in_ok hA i0 (by omega), ?_⟩
    ((try (conv => cbv)); repeat (refine brk_ok hA ?_; (try (conv => cbv))))
    obtain ⟨W, hW⟩ : ∃ x, x = wt + k := ⟨_, rfl⟩
    have hra := own_at oa8 i0 (by omega) hpa 0 4 (by omega)
    rw [← hW] at hra
    refine ⟨nm, sh, U, W, rd_ok hA hra, ?_⟩
    ((try (conv => cbv)); repeat (refine brk_ok hA ?_; (try (conv => cbv))))
    have m1 := shares_small hnu.1 hnu.2 p1 p2 hd.1
    have m2 := prod_small (a := U + 1) (b := de) (by omega) (by omega) (by omega) (by omega)
    have m3 := prod_small (a := U) (b := de) (by omega) (by omega) (by omega) (by omega)
    refine br (W ≠ wt + k) (by rw [e_neq hA, add64 hA (by omega) (by omega)]) (fun d => absurd hW d) (fun d => ?_) <;> (try (conv => cbv)) <;> repeat (refine brk_ok hA ?_; (try (conv => cbv)))
    refine br (0 < wt) (e_gtr hA _ _) (fun g1 => ?_) (fun g1 => ?_) <;> (try (conv => cbv)) <;> repeat (refine brk_ok hA ?_; (try (conv => cbv)))
    · refine br (U ≠ us) (e_neq hA _ _) (fun d => absurd (u4 (by omega)) d) (fun d => ?_) <;> (try (conv => cbv)) <;> repeat (refine brk_ok hA ?_; (try (conv => cbv)))
      refine br (wt = 0) (e_eql hA _ _) (fun d => absurd d (by omega)) (fun d => ?_) <;> (try (conv => cbv)) <;> repeat (refine brk_ok hA ?_; (try (conv => cbv)))
      obtain ⟨h9, w9, o9, wr9⟩ := own_put oa8 i0 (by omega) (pj_self i0 i1) ⟨nm, sh, us, wt⟩ 0 [.string nm, .int .i64 sh, .int .i64 us, .int .i64 wt] (by simp) rfl
      rw [setP_set, sself] at o9
      have n8 := e8.next
      have n9 := wr9.next
      have e09 : Ext h h9 := wr9.ext (e07.trans e8) (by omega)
      refine ⟨ab, 0, rfl, in_ok hA i0 (by omega), ?_⟩
      ((try (conv => cbv)); repeat (refine brk_ok hA ?_; (try (conv => cbv))))
      refine ⟨h9, wr_ok hA w9, ?_⟩
      ((try (conv => cbv)); repeat (refine brk_ok hA ?_; (try (conv => cbv))))
      refine same_ok hA (e09.lowOK hlow) (by omega) (o9.projs' (by omega) hl) (hs.ext e09) nu de nu de (fun r10 h10 e10 hr10 => ⟨_, rfl, ?_⟩)
      have q10 : r10 = true := hr10.2 ⟨rfl, rfl, rfl⟩
      subst q10
      ((try (conv => cbv)); repeat (refine brk_ok hA ?_; (try (conv => cbv))))
      exact hQ _ (e09.trans e10)
    · refine br (wt = 0) (e_eql hA _ _) (fun g2 => ?_) (fun d => absurd (by omega) d) <;> (try (conv => cbv)) <;> repeat (refine brk_ok hA ?_; (try (conv => cbv)))
      have u3' := u3 g2
      refine br (U < us) (e_lss hA _ _) (fun d => absurd d (by omega)) (fun d => ?_) <;> (try (conv => cbv)) <;> repeat (refine brk_ok hA ?_; (try (conv => cbv)))
      refine br ((U + 1) * de ≤ nu * sh) (by rw [e_leq hA, add64 hA (by omega) (by omega), mul64 hA (by omega) (by omega), mul64 hA (by omega) (by omega)]) (fun d => absurd d (by omega)) (fun d => ?_) <;> (try (conv => cbv)) <;> repeat (refine brk_ok hA ?_; (try (conv => cbv)))
      refine br (nu * sh < U * de) (by rw [e_gtr hA, mul64 hA (by omega) (by omega), mul64 hA (by omega) (by omega)]) (fun d => absurd d (by omega)) (fun d => ?_) <;> (try (conv => cbv)) <;> repeat (refine brk_ok hA ?_; (try (conv => cbv)))
      obtain ⟨h9, w9, o9, wr9⟩ := own_put oa8 i0 (by omega) (pj_self i0 i1) ⟨nm, sh, us, wt⟩ 0 [.string nm, .int .i64 sh, .int .i64 us, .int .i64 wt] (by simp) rfl
      rw [setP_set, sself] at o9
      have n8 := e8.next
      have n9 := wr9.next
      have e09 : Ext h h9 := wr9.ext (e07.trans e8) (by omega)
      refine ⟨ab, 0, rfl, in_ok hA i0 (by omega), ?_⟩
      ((try (conv => cbv)); repeat (refine brk_ok hA ?_; (try (conv => cbv))))
      refine ⟨h9, wr_ok hA w9, ?_⟩
      ((try (conv => cbv)); repeat (refine brk_ok hA ?_; (try (conv => cbv))))
      refine same_ok hA (e09.lowOK hlow) (by omega) (o9.projs' (by omega) hl) (hs.ext e09) nu de nu de (fun r10 h10 e10 hr10 => ⟨_, rfl, ?_⟩)
      have q10 : r10 = true := hr10.2 ⟨rfl, rfl, rfl⟩
      subst q10
      ((try (conv => cbv)); repeat (refine brk_ok hA ?_; (try (conv => cbv))))
      exact hQ _ (e09.trans e10)
  · ((try (conv => cbv)); repeat (refine brk_ok hA ?_; (try (conv => cbv))))
    refine br ((0 : Int) = 0) (e_eql hA _ _) (fun d => ?_) (fun d => absurd rfl d) <;> (try (conv => cbv)) <;> repeat (refine brk_ok hA ?_; (try (conv => cbv)))
    have hsE : serveE l = 0 := by rw [← hE]; unfold nextE; rw [if_pos hz]
    have nv := serve_valid hz hsE
    have pn := on.projs' b1 (n := n) (by rw [serveL_len]; exact hl)
    have e02 := e1.trans e2
    obtain ⟨v1, v2, v3, v4, v5, v6⟩ := checkQ_zero nv
    rw [← hu, ← hs'] at nv
    rw [← hu] at v5
    rw [← hs'] at v4
    obtain ⟨t0, t1⟩ := serveE_zero hsE
    obtain ⟨t2, _⟩ := turn_spec hbd t0
    have t3 := (hfit _ t0 (turnF_range l).2).2.2 t2
    have hlv : nu * s ≤ u * de := by rw [hu, hs']; exact t3
    have mu := prod_small (a := u) (b := de) (by omega) (by omega) (by omega) (by omega)
    have ms := prod_small (a := nu) (b := s) (by omega) (by omega) (by omega) (by omega)
    refine check_ok hA (e02.lowOK hlow) (by omega) (by unfold capLow slack; omega) pn (checkQ_short nv) u s (fun r3 h3 hr3 e3 => ⟨_, rfl, ?_⟩)
    ((try (conv => cbv)); repeat (refine brk_ok hA ?_; (try (conv => cbv))))
    refine br (r3 ≠ 0) (e_neq hA _ _) (fun d => absurd (by omega) d) (fun d => ?_) <;> (try (conv => cbv)) <;> repeat (refine brk_ok hA ?_; (try (conv => cbv)))
    have e03 := e02.trans e3
    refine rcheck_ok hA (e03.lowOK hlow) (by omega) (pn.ext e3) (checkQ_short nv) u s (fun r4 h4 hr4 e4 => ⟨_, rfl, ?_⟩)
    ((try (conv => cbv)); repeat (refine brk_ok hA ?_; (try (conv => cbv))))
    refine br (r4 ≠ 0) (e_neq hA _ _) (fun d => absurd (by omega) d) (fun d => ?_) <;> (try (conv => cbv)) <;> repeat (refine brk_ok hA ?_; (try (conv => cbv)))
    refine br (u * de < nu * s) (by rw [e_lss hA, mul64 hA (by omega) (by omega), mul64 hA (by omega) (by omega)]) (fun d => absurd d (by omega)) (fun d => ?_) <;> (try (conv => cbv)) <;> repeat (refine brk_ok hA ?_; (try (conv => cbv)))
    have eX := e03.trans e4
    obtain ⟨hX, hhX⟩ : ∃ x, x = h4 := ⟨_, rfl⟩
    rw [← hhX] at eX ⊢
    obtain ⟨b, o, nm, sh, us, wt, rfl, hb3, hp, hr9, f0, f1, f2, f3⟩ := (hs.ext eX).at (i := i) i0 (by omega)
    have fi := hfit i i0 i1
    have fself := find_self hnt i0 i1
    have sself := setP_self i0 i1
    rw [hp] at fi fself sself
    simp only at fself
    obtain ⟨u1, u2, u3, u4⟩ := askU_spec hd.1 fi
    obtain ⟨⟨pn, p1, p2, p3, p4, p5, p6⟩, _, _⟩ := id fi
    simp only at p1 p2 p3 p4 p5 p6 u1 u2 u3 u4
    refine ⟨b, o, rfl, in_ok hA i0 (by omega), ?_⟩
    ((try (conv => cbv)); repeat (refine brk_ok hA ?_; (try (conv => cbv))))
    refine ⟨nm, sh, us, wt, rd_ok hA hr9, ?_⟩
    ((try (conv => cbv)); repeat (refine brk_ok hA ?_; (try (conv => cbv))))
    refine drop_ok hA (eX.lowOK hlow) (by omega) hc (hs.ext eX) hsh nu de nm (fun e h3 e3 hE hE0 => ?_) (fun db dc h3 e3 d0 d1 od hE _ => ⟨_, _, _, _, _, _, rfl, ?_⟩)
    · exact absurd (by rw [hE]; unfold dropE; rw [if_pos hz, fself, if_neg (by omega)]) hE0
    ((try (conv => cbv)); repeat (refine brk_ok hA ?_; (try (conv => cbv))))
    rw [fself, hp] at od
    have dv : checkQ (setP l i (dropP ⟨nm, sh, us, wt⟩)) nu de = 0 := set_valid hz i0 i1 (by rw [hp]; rfl) (drop_fits fi)
    have e03 := eX.trans e3
    have pd := od.projs' d1 (n := n) (by rw [setP_len]; exact hl)
    refine br ((0 : Int) ≠ 0) (e_neq hA _ _) (fun d => absurd rfl d) (fun d => ?_) <;> (try (conv => cbv)) <;> repeat (refine brk_ok hA ?_; (try (conv => cbv)))
    refine rcheck_ok hA (e03.lowOK hlow) (by omega) pd (checkQ_short dv) nu de (fun r4 h4 hr4 e4 => ⟨_, rfl, ?_⟩)
    ((try (conv => cbv)); repeat (refine brk_ok hA ?_; (try (conv => cbv))))
    refine br (r4 ≠ 0) (e_neq hA _ _) (fun d => absurd (by omega) d) (fun d => ?_) <;> (try (conv => cbv)) <;> repeat (refine brk_ok hA ?_; (try (conv => cbv)))
    refine br (ofNat n ≠ ofNat n) (e_neq hA _ _) (fun d => absurd rfl d) (fun d => ?_) <;> (try (conv => cbv)) <;> repeat (refine brk_ok hA ?_; (try (conv => cbv)))
    have od4 := od.ext e4 d1
    have l3 := setP_len l i (dropP ⟨nm, sh, us, wt⟩)
    refine ⟨db, 0, rfl, in_ok hA i0 (by omega), ?_⟩
    ((try (conv => cbv)); repeat (refine brk_ok hA ?_; (try (conv => cbv))))
    refine ⟨0, rd_fld hA (own_at od4 i0 (by omega) (pj_self i0 i1) 3 1 (by omega)), ?_⟩
    ((try (conv => cbv)); repeat (refine brk_ok hA ?_; (try (conv => cbv))))
    refine br ((0 : Int) ≠ 0) (e_neq hA _ _) (fun d => absurd rfl d) (fun d => ?_) <;> (try (conv => cbv)) <;> repeat (refine brk_ok hA ?_; (try (conv => cbv)))
    obtain ⟨h5, w5, o5, wr5⟩ := own_put od4 i0 (by omega) (pj_self i0 i1) ⟨nm, sh, us, wt⟩ 3 [.int .i64 wt] (by simp) rfl
    rw [setP_set, sself] at o5
    have nX := eX.next
    have n4 := e4.next
    have n5 := wr5.next
    have e04 := e03.trans e4
    have e05 : Ext h h5 := wr5.ext e04 (by omega)
    refine ⟨db, 0, rfl, in_ok hA i0 (by omega), ?_⟩
    ((try (conv => cbv)); repeat (refine brk_ok hA ?_; (try (conv => cbv))))
    refine ⟨h5, wr_fld hA w5, ?_⟩
    ((try (conv => cbv)); repeat (refine brk_ok hA ?_; (try (conv => cbv))))
    refine same_ok hA (e05.lowOK hlow) (by omega) (o5.projs' (by omega) hl) (hs.ext e05) nu de nu de (fun r6 h6 e6 hr6 => ⟨_, rfl, ?_⟩)
    have q6 : r6 = true := hr6.2 ⟨rfl, rfl, rfl⟩
    subst q6
    ((try (conv => cbv)); repeat (refine brk_ok hA ?_; (try (conv => cbv))))
    rw [bt]
    ((try (conv => cbv)); repeat (refine brk_ok hA ?_; (try (conv => cbv))))
    have e06 := e05.trans e6
    refine ask_ok hA (e06.lowOK hlow) (by omega) hc (hs.ext e06) hsh nu de nm k (fun e h7 e7 hE hE0 => ⟨_, _, _, _, _, _, rfl, ?_⟩) (fun ab ac h7 e7 a0 a1 oa hE _ => ⟨_, _, _, _, _, _, rfl, ?_⟩)
    · ((try (conv => cbv)); repeat (refine brk_ok hA ?_; (try (conv => cbv))))
      refine br (e ≠ 0) (e_neq hA _ _) (fun d => ?_) (fun d => absurd hE0 d) <;> (try (conv => cbv)) <;> repeat (refine brk_ok hA ?_; (try (conv => cbv)))
      have hv : e = 2 ∨ e = 4 ∨ e = 16 := by
        rw [hE]; unfold askE; rw [if_pos hz, fself, if_neg (by omega)]
        rw [hE] at hE0; unfold askE at hE0; rw [if_pos hz, fself, if_neg (by omega)] at hE0
        split
        · exact .inl rfl
        · rename_i g1
          rw [if_neg g1] at hE0
          split
          · exact .inr (.inl rfl)
          · rename_i g2
            rw [if_neg g2] at hE0
            split
            · exact .inr (.inr rfl)
            · rename_i g3; rw [if_neg g3] at hE0; exact absurd rfl hE0
      refine br (e = 2) (e_eql hA _ _) (fun d => ?_) (fun d2 => ?_) <;> (try (conv => cbv)) <;> repeat (refine brk_ok hA ?_; (try (conv => cbv)))
      · exact hQ _ (e06.trans e7)
      refine br (e = 4) (e_eql hA _ _) (fun d => ?_) (fun d4 => ?_) <;> (try (conv => cbv)) <;> repeat (refine brk_ok hA ?_; (try (conv => cbv)))
      · exact hQ _ (e06.trans e7)
      have h16 : cmp .eql e 16 = true := by rw [e_eql hA]; simp; omega
      rw [h16]
      ((try (conv => cbv)); repeat (refine brk_ok hA ?_; (try (conv => cbv))))
      exact hQ _ (e06.trans e7)
    ((try (conv => cbv)); repeat (refine brk_ok hA ?_; (try (conv => cbv))))
    obtain ⟨_, _, k1, k2, k3⟩ := askE_zero hE
    rw [fself, hp] at oa k2 k3
    simp only at k2
    have av : checkQ (setP l i (askP nu de ⟨nm, sh, us, wt⟩ k)) nu de = 0 := set_valid hz i0 i1 (by rw [hp]; rfl) (ask_fits hd.1 fi k1 k2 k3)
    have e07 := e06.trans e7
    have n6 := e06.next
    have la := setP_len l i (askP nu de ⟨nm, sh, us, wt⟩ k)
    have pa := oa.projs' a1 (n := n) (by rw [setP_len]; exact hl)
    refine br ((0 : Int) ≠ 0) (e_neq hA _ _) (fun d => absurd rfl d) (fun d => ?_) <;> (try (conv => cbv)) <;> repeat (refine brk_ok hA ?_; (try (conv => cbv)))
    refine rcheck_ok hA (e07.lowOK hlow) (by omega) pa (checkQ_short av) nu de (fun r8 h8 hr8 e8 => ⟨_, rfl, ?_⟩)
    ((try (conv => cbv)); repeat (refine brk_ok hA ?_; (try (conv => cbv))))
    refine br (r8 ≠ 0) (e_neq hA _ _) (fun d => absurd (by omega) d) (fun d => ?_) <;> (try (conv => cbv)) <;> repeat (refine brk_ok hA ?_; (try (conv => cbv)))
    refine br (ofNat n ≠ ofNat n) (e_neq hA _ _) (fun d => absurd rfl d) (fun d => ?_) <;> (try (conv => cbv)) <;> repeat (refine brk_ok hA ?_; (try (conv => cbv)))
    have oa8 := oa.ext e8 a1
    obtain ⟨U, hU⟩ : ∃ x, x = askU nu de ⟨nm, sh, us, wt⟩ := ⟨_, rfl⟩
    rw [← hU] at u1 u2 u3 u4 k3
    have hpa : pj (setP l i (askP nu de ⟨nm, sh, us, wt⟩ k)) i = ⟨nm, sh, U, wt + k⟩ := by rw [pj_self i0 i1]; unfold askP; rw [← hU]
    refine ⟨ab, 0, rfl, in_ok hA i0 (by omega), ?_⟩
    ((try (conv => cbv)); repeat (refine brk_ok hA ?_; (try (conv => cbv))))
    obtain ⟨W, hW⟩ : ∃ x, x = wt + k := ⟨_, rfl⟩
    have hra := own_at oa8 i0 (by omega) hpa 0 4 (by omega)
    rw [← hW] at hra
    refine ⟨nm, sh, U, W, rd_ok hA hra, ?_⟩
    ((try (conv => cbv)); repeat (refine brk_ok hA ?_; (try (conv => cbv))))
    have m1 := shares_small hnu.1 hnu.2 p1 p2 hd.1
    have m2 := prod_small (a := U + 1) (b := de) (by omega) (by omega) (by omega) (by omega)
    have m3 := prod_small (a := U) (b := de) (by omega) (by omega) (by omega) (by omega)
    refine br (W ≠ wt + k) (by rw [e_neq hA, add64 hA (by omega) (by omega)]) (fun d => absurd hW d) (fun d => ?_) <;> (try (conv => cbv)) <;> repeat (refine brk_ok hA ?_; (try (conv => cbv)))
    refine br (0 < wt) (e_gtr hA _ _) (fun g1 => ?_) (fun g1 => ?_) <;> (try (conv => cbv)) <;> repeat (refine brk_ok hA ?_; (try (conv => cbv)))
    · refine br (U ≠ us) (e_neq hA _ _) (fun d => absurd (u4 (by omega)) d) (fun d => ?_) <;> (try (conv => cbv)) <;> repeat (refine brk_ok hA ?_; (try (conv => cbv)))
      refine br (wt = 0) (e_eql hA _ _) (fun d => absurd d (by omega)) (fun d => ?_) <;> (try (conv => cbv)) <;> repeat (refine brk_ok hA ?_; (try (conv => cbv)))
      obtain ⟨h9, w9, o9, wr9⟩ := own_put oa8 i0 (by omega) (pj_self i0 i1) ⟨nm, sh, us, wt⟩ 0 [.string nm, .int .i64 sh, .int .i64 us, .int .i64 wt] (by simp) rfl
      rw [setP_set, sself] at o9
      have n8 := e8.next
      have n9 := wr9.next
      have e09 : Ext h h9 := wr9.ext (e07.trans e8) (by omega)
      refine ⟨ab, 0, rfl, in_ok hA i0 (by omega), ?_⟩
      ((try (conv => cbv)); repeat (refine brk_ok hA ?_; (try (conv => cbv))))
      refine ⟨h9, wr_ok hA w9, ?_⟩
      ((try (conv => cbv)); repeat (refine brk_ok hA ?_; (try (conv => cbv))))
      refine same_ok hA (e09.lowOK hlow) (by omega) (o9.projs' (by omega) hl) (hs.ext e09) nu de nu de (fun r10 h10 e10 hr10 => ⟨_, rfl, ?_⟩)
      have q10 : r10 = true := hr10.2 ⟨rfl, rfl, rfl⟩
      subst q10
      ((try (conv => cbv)); repeat (refine brk_ok hA ?_; (try (conv => cbv))))
      exact hQ _ (e09.trans e10)
    · refine br (wt = 0) (e_eql hA _ _) (fun g2 => ?_) (fun d => absurd (by omega) d) <;> (try (conv => cbv)) <;> repeat (refine brk_ok hA ?_; (try (conv => cbv)))
      have u3' := u3 g2
      refine br (U < us) (e_lss hA _ _) (fun d => absurd d (by omega)) (fun d => ?_) <;> (try (conv => cbv)) <;> repeat (refine brk_ok hA ?_; (try (conv => cbv)))
      refine br ((U + 1) * de ≤ nu * sh) (by rw [e_leq hA, add64 hA (by omega) (by omega), mul64 hA (by omega) (by omega), mul64 hA (by omega) (by omega)]) (fun d => absurd d (by omega)) (fun d => ?_) <;> (try (conv => cbv)) <;> repeat (refine brk_ok hA ?_; (try (conv => cbv)))
      refine br (nu * sh < U * de) (by rw [e_gtr hA, mul64 hA (by omega) (by omega), mul64 hA (by omega) (by omega)]) (fun d => absurd d (by omega)) (fun d => ?_) <;> (try (conv => cbv)) <;> repeat (refine brk_ok hA ?_; (try (conv => cbv)))
      obtain ⟨h9, w9, o9, wr9⟩ := own_put oa8 i0 (by omega) (pj_self i0 i1) ⟨nm, sh, us, wt⟩ 0 [.string nm, .int .i64 sh, .int .i64 us, .int .i64 wt] (by simp) rfl
      rw [setP_set, sself] at o9
      have n8 := e8.next
      have n9 := wr9.next
      have e09 : Ext h h9 := wr9.ext (e07.trans e8) (by omega)
      refine ⟨ab, 0, rfl, in_ok hA i0 (by omega), ?_⟩
      ((try (conv => cbv)); repeat (refine brk_ok hA ?_; (try (conv => cbv))))
      refine ⟨h9, wr_ok hA w9, ?_⟩
      ((try (conv => cbv)); repeat (refine brk_ok hA ?_; (try (conv => cbv))))
      refine same_ok hA (e09.lowOK hlow) (by omega) (o9.projs' (by omega) hl) (hs.ext e09) nu de nu de (fun r10 h10 e10 hr10 => ⟨_, rfl, ?_⟩)
      have q10 : r10 = true := hr10.2 ⟨rfl, rfl, rfl⟩
      subst q10
      ((try (conv => cbv)); repeat (refine brk_ok hA ?_; (try (conv => cbv))))
      exact hQ _ (e09.trans e10)

end Go.Proofs.Ytlpnmdknlfmjaaa
