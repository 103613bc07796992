/-
  fringelaw42.done: what it does with a queue.
-/
import Derived.Test.YtlpnmdknlfmjaaaWaitsLaw
import Derived.Test.YtlpnmdknlfmjaaaLevel
namespace Go.Proofs.Ytlpnmdknlfmjaaa
open Go.Sim
set_option linter.unusedVariables false
set_option maxRecDepth 100000

variable {call : FuncId → List Value → AHeap → (Value → AHeap → Prop) → Prop}
  {head : FuncId → Nat → Nat → SS → (Exit → SS → Prop) → Prop}
  {arith : BinOp → IntKind → Int → Int → Int}
  {cmp : BinOp → Int → Int → Bool}
  {scmp : BinOp → ByteArray → ByteArray → Bool}
  {bnot : Bool → Bool}
  {bsame : Bool → Bool → Bool}
  {conv : IntKind → Int → Int}
  {neg : IntKind → Int → Int}
  {imax : Int → Int → Int}
  {imin : Int → Int → Int}
  {ofNat : Nat → Int}
  {slen : ByteArray → Int}
  {place : Nat → Int → Nat → Nat}
  {inR : Int → Nat → Prop}
  {nz : Int → Prop}
  {geZ : Int → Prop}
  {rd : AHeap → Nat → Nat → Nat → List Value → Prop}
  {wr : AHeap → Nat → Nat → List Value → AHeap → Prop}
  {push : AHeap → Nat → List Value → AHeap}
  {next : AHeap → Nat}
  {mkOK : Int → Int → Prop}
  {nat : Int → Nat}
  {zeros : List Value → Int → List Value}
  {sadd : ByteArray → ByteArray → (ByteArray → Prop) → Prop}
  {eqAgg : TypeId → Array Value → Array Value → (Bool → Prop) → Prop}
  {cut : Nat → Int → Prop}
  {slc : TypeId → Value → Option Value → Option Value → Option Value → (Option Addr → Nat → Nat → Prop) → Prop}
  {sslc : TypeId → ByteArray → Option Value → Option Value → (ByteArray → Prop) → Prop}
  {strAt : ByteArray → Int → (Int → Prop) → Prop}
  {part : TypeId → Array Value → Nat → Value → Prop}
  {app : List TypeId → List Value → AHeap → (Option Addr → Nat → Nat → AHeap → Prop) → Prop}
  {cpy : List TypeId → List Value → AHeap → (Int → AHeap → Prop) → Prop}
  {putAt : AHeap → Nat → Nat → List Value → AHeap}
  {fresh : AHeap → AHeap}
  {lowered : AHeap → AHeap → AHeap}
  {bump : AHeap → Nat → AHeap}
  {wrote : AHeap → AHeap → Bool}
  {addN : Nat → Nat → Nat}
  {lt : Nat → Nat → Prop}
  {ne : Nat → Nat → Prop}
  {fpAll : Bool → Bool → Bool → Nat → Nat → Prop}
  {brk : (Unit → Prop) → Prop}
  (hA : AOK progU hint prims ⟨call, head, arith, cmp, scmp, bnot, bsame, conv, neg, imax, imin, ofNat, slen, place, inR, nz, geZ, rd, wr, push, next, mkOK, nat, zeros, sadd, eqAgg, cut, slc, sslc, strAt, part, app, cpy, putAt, fresh, lowered, bump, wrote, addN, lt, ne, fpAll, brk⟩)
include hA

theorem wrote_no {X h' : AHeap} (e : Ext X.freshed h') : wrote X h' = false := by
  rw [e_wrote hA]
  have h1 := e.lowG
  have h2 : Nat.min X.freshed.low X.freshed.next = X.next := Nat.min_self _
  exact blt_false (by omega)


theorem done_ok {h : AHeap} (hlow : h.low ≤ h.next) {a : Option Addr} {n c : Nat} (hc : n ≤ capLow c) {l : List Proj} (hs : Projs h a n l) {nu de : Int} (hz : checkQ l nu de = 0) {w y : Int} (hw : 0 ≤ w ∧ w < n) (hy : -9223372036854775808 ≤ y ∧ y < 9223372036854775808) {Q : Value → AHeap → Prop}
    (hno : ∀ a' n' c' u s srv h', Ext h h' → Q (.tuple #[.agg #[.slice a' n' c', .int .i64 u, .int .i64 s], .int .i64 srv, .bool false]) h')
    (hyes : ∀ a' c' u s srv l' h', Ext h h' → Step l nu de w l' u s srv → srv < n → Projs h' a' n l' → n ≤ capLow c' → Q (.tuple #[.agg #[.slice a' n c', .int .i64 u, .int .i64 s], .int .i64 srv, .bool true]) h') :
    call 31 [.agg #[.slice a n c, .int .i64 nu, .int .i64 de], .int .i64 y, .int .i64 w] h Q := by
  have hl := hs.len
  have hsh := checkQ_short hz
  obtain ⟨h8, hnt, hl1, hd, hnu, hfit⟩ := checkQ_zero hz
  refine hA.bodyR Try.func31 r31_ok (show prims _ _ _ = none from rfl) hlow ?_; (try (conv => cbv)); repeat (refine brk_ok hA ?_; (try (conv => cbv)))
  refine br (0 ≤ y) (e_geq hA _ _) (fun c1 => ?_) (fun c1 => ?_) <;> (try (conv => cbv)) <;> repeat (refine brk_ok hA ?_; (try (conv => cbv)))
  · refine nextQ_ok hA hlow (by omega) hc hs hsh nu de (fun e h2 e2 hE hE0 => ⟨_, _, _, _, _, _, _, rfl, ?_⟩) (fun nb j u s h2 e2 b0 b1 on hE hj hu hs' => ⟨_, _, _, _, _, _, _, rfl, ?_⟩)
    · ((try (conv => cbv)); repeat (refine brk_ok hA ?_; (try (conv => cbv))))
      have hf : cmp .eql e 0 = false := by rw [e_eql hA]; simp [hE0]
      rw [hf]
      exact hno _ _ _ _ _ _ _ e2
    · ((try (conv => cbv)); repeat (refine brk_ok hA ?_; (try (conv => cbv))))
      have hf : cmp .eql 0 0 = true := by rw [e_eql hA]; rfl
      rw [hf]
      have hsE : serveE l = 0 := by rw [← hE]; unfold nextE; rw [if_pos hz]
      have rg := (turnF_range l).2
      exact hyes _ n u s j _ _ e2 (by rw [hu, hs', hj]; exact .serve hsE) (by omega) (on.projs' b1 (by rw [serveL_len]; exact hl)) (by unfold capLow slack; omega)
  obtain ⟨M, hM⟩ : ∃ x, x = -1 - y := ⟨_, rfl⟩
  obtain ⟨kk, hkk⟩ : ∃ x, x = M % n := ⟨_, rfl⟩
  obtain ⟨qq, hqq⟩ : ∃ x, x = M / n := ⟨_, rfl⟩
  obtain ⟨rr, hrr⟩ : ∃ x, x = qq % 5 := ⟨_, rfl⟩
  have hM0 : 0 ≤ M := by omega
  have k0 : 0 ≤ kk := by rw [hkk]; exact Int.emod_nonneg _ (by omega)
  have k1 : kk < n := by rw [hkk]; exact Int.emod_lt_of_pos _ (by omega)
  have q0 : 0 ≤ qq := by rw [hqq]; exact Int.ediv_nonneg hM0 (by omega)
  have q1 : qq ≤ M := by rw [hqq]; exact Int.ediv_le_self _ hM0
  have r0 : 0 ≤ rr ∧ rr < 5 := by omega
  have eM : arith .sub .i64 (-1) y = M := by rw [sub64 hA (by omega) (by omega)]; exact hM.symm
  have eK : arith .rem .i64 M (ofNat n) = kk := by rw [e_ofNat hA, rem64 hA hM0]; exact hkk.symm
  have eQ : arith .quo .i64 M (ofNat n) = qq := by rw [e_ofNat hA, quo64 hA hM0 (by omega) (by omega)]; exact hqq.symm
  have eR : arith .rem .i64 qq 5 = rr := by rw [rem64 hA q0]; exact hrr.symm
  rw [eM]
  refine ⟨nz_ok hA (by rw [e_ofNat hA]; omega), ?_⟩
  ((try (conv => cbv)); repeat (refine brk_ok hA ?_; (try (conv => cbv))))
  rw [eM]
  refine ⟨nz_ok hA (by rw [e_ofNat hA]; omega), ?_⟩
  ((try (conv => cbv)); repeat (refine brk_ok hA ?_; (try (conv => cbv))))
  refine ⟨nz_ok hA (by omega), ?_⟩
  ((try (conv => cbv)); repeat (refine brk_ok hA ?_; (try (conv => cbv))))
  rw [eQ, eR, eK]
  have kl : kk < l.length := by omega
  have fself := find_self hnt k0 kl
  obtain ⟨b, o, nm, sh, us, wt, rfl, hb3, hp, hr9, f0, f1, f2, f3⟩ := hs.at (i := kk) k0 k1
  rw [hp] at fself
  simp only at fself
  have hf0 : cmp .eql 0 0 = true := by rw [e_eql hA]; rfl
  refine br (rr = 4) (e_eql hA _ _) (fun c2 => ?_) (fun c2 => ?_) <;> (try (conv => cbv)) <;> repeat (refine brk_ok hA ?_; (try (conv => cbv)))
  · refine br (kk ≠ w) (e_neq hA _ _) (fun c3 => ?_) (fun c3 => ?_) <;> (try (conv => cbv)) <;> repeat (refine brk_ok hA ?_; (try (conv => cbv)))
    · refine ⟨b, o, rfl, in_ok hA k0 k1, ?_⟩
      ((try (conv => cbv)); repeat (refine brk_ok hA ?_; (try (conv => cbv))))
      refine ⟨nm, rd_fld hA (by rw [e_bump hA]; exact f0), ?_⟩
      ((try (conv => cbv)); repeat (refine brk_ok hA ?_; (try (conv => cbv))))
      rw [e_bump hA, e_fresh hA]
      have eX := Ext.bump h 14
      generalize h.bump 14 = X at *
      have eXf := eX.trans (Ext.freshed X)
      refine drop_ok hA (freshed_low _) (by omega) hc (hs.ext eXf) hsh nu de nm (fun e h1 e1 hE hE0 => ?_) (fun db dc h1 e1 d0 d1 od hE cap => ⟨_, _, _, _, _, _, rfl, ?_⟩)
      · exact absurd (by rw [hE]; unfold dropE; rw [if_pos hz, fself, if_neg (by omega)]) hE0
      ((try (conv => cbv)); repeat (refine brk_ok hA ?_; (try (conv => cbv))))
      refine ⟨ne_ok hA (by omega), ne_ok hA (by omega), wrote_no hA e1, ?_⟩
      ((try (conv => cbv)); repeat (refine brk_ok hA ?_; (try (conv => cbv))))
      rw [hf0, e_lowered hA]
      rw [fself] at od
      have od' : Own (h1.lowered X.low) db 4 _ := od
      exact hyes _ dc nu de (-1) _ (h1.lowered X.low) ((eXf.trans e1).lowered' eX hlow) (.drop kk k0 kl c3) (by omega) (od'.projs' d1 (by rw [setP_len]; exact hl)) cap
    · refine ⟨b, o, rfl, in_ok hA k0 k1, ?_⟩
      ((try (conv => cbv)); repeat (refine brk_ok hA ?_; (try (conv => cbv))))
      refine ⟨nm, rd_fld hA (by rw [e_bump hA]; exact f0), ?_⟩
      ((try (conv => cbv)); repeat (refine brk_ok hA ?_; (try (conv => cbv))))
      rw [eM]
      refine ⟨nz_ok hA (by rw [e_ofNat hA]; omega), ?_⟩
      ((try (conv => cbv)); repeat (refine brk_ok hA ?_; (try (conv => cbv))))
      refine ⟨nz_ok hA (by omega), ?_⟩
      ((try (conv => cbv)); repeat (refine brk_ok hA ?_; (try (conv => cbv))))
      rw [eQ, eR, add64 hA (by omega) (by omega)]
      obtain ⟨mm, hmm⟩ : ∃ x, x = 1 + rr := ⟨_, rfl⟩
      rw [← hmm, e_bump hA, e_fresh hA]
      have eX := Ext.bump h 22
      generalize h.bump 22 = X at *
      have eXf := eX.trans (Ext.freshed X)
      refine ask_ok hA (freshed_low _) (by omega) hc (hs.ext eXf) hsh nu de nm mm (fun e h1 e1 hE hE0 => ⟨_, _, _, _, _, _, rfl, ?_⟩) (fun db dc h1 e1 d0 d1 od hE cap => ⟨_, _, _, _, _, _, rfl, ?_⟩)
      · ((try (conv => cbv)); repeat (refine brk_ok hA ?_; (try (conv => cbv))))
        refine ⟨ne_ok hA (by omega), ne_ok hA (by omega), ne_ok hA (by omega), wrote_no hA e1, ?_⟩
        ((try (conv => cbv)); repeat (refine brk_ok hA ?_; (try (conv => cbv))))
        have hf : cmp .eql e 0 = false := by rw [e_eql hA]; simp [hE0]
        rw [hf, e_lowered hA]
        exact hno _ _ _ _ _ _ _ ((eXf.trans e1).lowered' eX hlow)
      ((try (conv => cbv)); repeat (refine brk_ok hA ?_; (try (conv => cbv))))
      refine ⟨ne_ok hA (by omega), ne_ok hA (by omega), ne_ok hA (by omega), wrote_no hA e1, ?_⟩
      ((try (conv => cbv)); repeat (refine brk_ok hA ?_; (try (conv => cbv))))
      rw [hf0, e_lowered hA]
      obtain ⟨_, _, g1, g2, g3⟩ := askE_zero hE
      rw [fself] at od g2 g3
      have od' : Own (h1.lowered X.low) db 4 _ := od
      exact hyes _ dc nu de (-1) _ (h1.lowered X.low) ((eXf.trans e1).lowered' eX hlow) (.ask kk mm k0 kl g1 g2 g3) (by omega) (od'.projs' d1 (by rw [setP_len]; exact hl)) cap
  · refine ⟨b, o, rfl, in_ok hA k0 k1, ?_⟩
    ((try (conv => cbv)); repeat (refine brk_ok hA ?_; (try (conv => cbv))))
    refine ⟨nm, rd_fld hA (by rw [e_bump hA]; exact f0), ?_⟩
    ((try (conv => cbv)); repeat (refine brk_ok hA ?_; (try (conv => cbv))))
    rw [eM]
    refine ⟨nz_ok hA (by rw [e_ofNat hA]; omega), ?_⟩
    ((try (conv => cbv)); repeat (refine brk_ok hA ?_; (try (conv => cbv))))
    refine ⟨nz_ok hA (by omega), ?_⟩
    ((try (conv => cbv)); repeat (refine brk_ok hA ?_; (try (conv => cbv))))
    rw [eQ, eR, add64 hA (by omega) (by omega)]
    obtain ⟨mm, hmm⟩ : ∃ x, x = 1 + rr := ⟨_, rfl⟩
    rw [← hmm, e_bump hA, e_fresh hA]
    have eX := Ext.bump h 22
    generalize h.bump 22 = X at *
    have eXf := eX.trans (Ext.freshed X)
    refine ask_ok hA (freshed_low _) (by omega) hc (hs.ext eXf) hsh nu de nm mm (fun e h1 e1 hE hE0 => ⟨_, _, _, _, _, _, rfl, ?_⟩) (fun db dc h1 e1 d0 d1 od hE cap => ⟨_, _, _, _, _, _, rfl, ?_⟩)
    · ((try (conv => cbv)); repeat (refine brk_ok hA ?_; (try (conv => cbv))))
      refine ⟨ne_ok hA (by omega), ne_ok hA (by omega), ne_ok hA (by omega), wrote_no hA e1, ?_⟩
      ((try (conv => cbv)); repeat (refine brk_ok hA ?_; (try (conv => cbv))))
      have hf : cmp .eql e 0 = false := by rw [e_eql hA]; simp [hE0]
      rw [hf, e_lowered hA]
      exact hno _ _ _ _ _ _ _ ((eXf.trans e1).lowered' eX hlow)
    ((try (conv => cbv)); repeat (refine brk_ok hA ?_; (try (conv => cbv))))
    refine ⟨ne_ok hA (by omega), ne_ok hA (by omega), ne_ok hA (by omega), wrote_no hA e1, ?_⟩
    ((try (conv => cbv)); repeat (refine brk_ok hA ?_; (try (conv => cbv))))
    rw [hf0, e_lowered hA]
    obtain ⟨_, _, g1, g2, g3⟩ := askE_zero hE
    rw [fself] at od g2 g3
    have od' : Own (h1.lowered X.low) db 4 _ := od
    exact hyes _ dc nu de (-1) _ (h1.lowered X.low) ((eXf.trans e1).lowered' eX hlow) (.ask kk mm k0 kl g1 g2 g3) (by omega) (od'.projs' d1 (by rw [setP_len]; exact hl)) cap

end Go.Proofs.Ytlpnmdknlfmjaaa
