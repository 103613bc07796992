/-
  SERVING: queue.serve, Next, Serve; fringeref42.Next, Serve: what they return.
-/
import Derived.Test.YtlpnmdknlfmjaaaQSame
namespace Go.Proofs.Ytlpnmdknlfmjaaa
open Go.Sim
set_option linter.unusedVariables false
set_option maxRecDepth 100000

def setP (l : List Proj) (i : Int) (p : Proj) : List Proj := l.set i.toNat p
def served (p : Proj) : Proj := ⟨p.name, p.share, p.used + 1, p.waiting - 1⟩
def serveE (l : List Proj) : Int := if turnF l < 0 then 6 else if 1000000 ≤ (pj l (turnF l)).used then 16 else 0
def serveL (l : List Proj) : List Proj := setP l (turnF l) (served (pj l (turnF l)))

theorem setP_len (l : List Proj) (i : Int) (p : Proj) : (setP l i p).length = l.length := by unfold setP; simp
theorem pj_set {l : List Proj} {i j : Int} {p : Proj} (hi : 0 ≤ i) (hj : 0 ≤ j) (hl : i < l.length) : pj (setP l i p) j = if j = i then p else pj l j := by
  unfold pj setP
  by_cases e : j = i
  · subst e
    rw [if_pos rfl, List.getD_eq_getElem?_getD, List.getElem?_set_self (by omega)]; rfl
  · rw [if_neg e, List.getD_eq_getElem?_getD, List.getElem?_set_ne (by omega), ← List.getD_eq_getElem?_getD]
theorem setP_set (l : List Proj) (i : Int) (p q : Proj) : setP (setP l i p) i q = setP l i q := by unfold setP; simp

theorem own_at {h : AHeap} {pb : Nat} {l : List Proj} (op : Own h pb 4 (flatP l)) {i : Int} (h0 : 0 ≤ i) (h1 : i < l.length) {p : Proj} (hp : pj l i = p) (f m : Nat) (hf : f + m ≤ 4) : h.readG ⟨pb, 0 + i.toNat * 4 + f, none⟩ m = some ((p.cells.drop f).take m) := by
  rw [Nat.zero_add, op.readG (by rw [flatP_len]; omega), flatP_at l (by omega) hf]
  unfold pj at hp
  rw [hp]
theorem own_put {h : AHeap} {pb : Nat} {l : List Proj} (op : Own h pb 4 (flatP l)) {i : Int} (h0 : 0 ≤ i) (h1 : i < l.length) {p : Proj} (hp : pj l i = p) (p' : Proj) (f : Nat) (vs : List Value) (hf : f + vs.length ≤ 4) (hc : p'.cells = p.cells.take f ++ (vs ++ p.cells.drop (f + vs.length))) :
    ∃ h', h.write pb (0 + i.toNat * 4 + f) vs = some h' ∧ Own h' pb 4 (flatP (setP l i p')) ∧ Wrote h h' pb := by
  unfold pj at hp
  rw [Nat.zero_add]
  exact op.setP (i := i.toNat) (f := f) (vs := vs) (p := p') (by omega) hf (by rw [hp]; exact hc)
theorem pj_self {l : List Proj} {i : Int} {p : Proj} (h0 : 0 ≤ i) (h1 : i < l.length) : pj (setP l i p) i = p := by rw [pj_set h0 h0 h1, if_pos rfl]

theorem turnF_range (l : List Proj) : -1 ≤ turnF l ∧ turnF l < l.length := turnTo_range l l.length

variable {call : FuncId → List Value → AHeap → (Value → AHeap → Prop) → Prop}
  {head : FuncId → Nat → Nat → SS → (Exit → SS → Prop) → Prop}
  {arith : BinOp → IntKind → Int → Int → Int}
  {cmp : BinOp → Int → Int → Bool}
  {scmp : BinOp → ByteArray → ByteArray → Bool}
  {bnot : Bool → Bool}
  {bsame : Bool → Bool → Bool}
  {conv : IntKind → Int → Int}
  {neg : IntKind → Int → Int}
  {imax : Int → Int → Int}
  {imin : Int → Int → Int}
  {ofNat : Nat → Int}
  {slen : ByteArray → Int}
  {place : Nat → Int → Nat → Nat}
  {inR : Int → Nat → Prop}
  {nz : Int → Prop}
  {geZ : Int → Prop}
  {rd : AHeap → Nat → Nat → Nat → List Value → Prop}
  {wr : AHeap → Nat → Nat → List Value → AHeap → Prop}
  {push : AHeap → Nat → List Value → AHeap}
  {next : AHeap → Nat}
  {mkOK : Int → Int → Prop}
  {nat : Int → Nat}
  {zeros : List Value → Int → List Value}
  {sadd : ByteArray → ByteArray → (ByteArray → Prop) → Prop}
  {eqAgg : TypeId → Array Value → Array Value → (Bool → Prop) → Prop}
  {cut : Nat → Int → Prop}
  {slc : TypeId → Value → Option Value → Option Value → Option Value → (Option Addr → Nat → Nat → Prop) → Prop}
  {sslc : TypeId → ByteArray → Option Value → Option Value → (ByteArray → Prop) → Prop}
  {strAt : ByteArray → Int → (Int → Prop) → Prop}
  {part : TypeId → Array Value → Nat → Value → Prop}
  {app : List TypeId → List Value → AHeap → (Option Addr → Nat → Nat → AHeap → Prop) → Prop}
  {cpy : List TypeId → List Value → AHeap → (Int → AHeap → Prop) → Prop}
  {putAt : AHeap → Nat → Nat → List Value → AHeap}
  {fresh : AHeap → AHeap}
  {lowered : AHeap → AHeap → AHeap}
  {bump : AHeap → Nat → AHeap}
  {wrote : AHeap → AHeap → Bool}
  {addN : Nat → Nat → Nat}
  {lt : Nat → Nat → Prop}
  {ne : Nat → Nat → Prop}
  {fpAll : Bool → Bool → Bool → Nat → Nat → Prop}
  {brk : (Unit → Prop) → Prop}
  (hA : AOK progU hint prims ⟨call, head, arith, cmp, scmp, bnot, bsame, conv, neg, imax, imin, ofNat, slen, place, inR, nz, geZ, rd, wr, push, next, mkOK, nat, zeros, sadd, eqAgg, cut, slc, sslc, strAt, part, app, cpy, putAt, fresh, lowered, bump, wrote, addN, lt, ne, fpAll, brk⟩)
include hA

theorem serve_ok {h0 h : AHeap} (he : Ext h0 h) (hlow : h0.low ≤ h0.next) {qb pb n c : Nat} (hq0 : h0.next ≤ qb) (hp0 : h0.next ≤ pb) (hq : qb < h.next) (hp : pb < h.next) (hne : qb ≠ pb) {l : List Proj} (hn : n = l.length) (hn2 : n ≤ 1000) (hb : bounds l) {nu de : Int}
    (oq : Own h qb 3 [.slice (some ⟨pb, 0, none⟩) n c, .int .i64 nu, .int .i64 de]) (op : Own h pb 4 (flatP l)) {Q : Value → AHeap → Prop}
    (hQ : ∀ e i h', Ext h0 h' → h.next ≤ h'.next → (∀ b, b < h.next → b ≠ qb → b ≠ pb → h'.m.get b = h.m.get b) → e = serveE l → (e ≠ 0 → i = 0 ∧ Own h' qb 3 [.slice (some ⟨pb, 0, none⟩) n c, .int .i64 nu, .int .i64 de] ∧ Own h' pb 4 (flatP l)) →
      (e = 0 → i = turnF l ∧ Own h' qb 3 [.slice (some ⟨pb, 0, none⟩) n c, .int .i64 ((pj l (turnF l)).used + 1), .int .i64 (pj l (turnF l)).share] ∧ Own h' pb 4 (flatP (serveL l))) → Q (.tuple #[.int .i64 i, .int .i64 e]) h') : call 33 [.pointer (some ⟨qb, 0, none⟩)] h Q := by
  have hlw := he.lowOK hlow
  have rg := turnF_range l
  replace hlow := hlw
  refine hA.bodyR Try.func33 r33_ok (show prims _ _ _ = none from rfl) hlow ?_; (try (conv => cbv)); repeat (refine brk_ok hA ?_; (try (conv => cbv)))
  refine ⟨some ⟨pb, 0, none⟩, n, c, rd_fld0 hA (oq.readG (by simp)), ?_⟩
  ((try (conv => cbv)); repeat (refine brk_ok hA ?_; (try (conv => cbv))))
  refine next_ok hA hlow hn2 (op.projs hp hn) hb (fun i h1 e1 hi => ⟨_, rfl, ?_⟩)
  ((try (conv => cbv)); repeat (refine brk_ok hA ?_; (try (conv => cbv))))
  have oq1 := oq.ext e1 hq
  have op1 := op.ext e1 hp
  have hq1 : qb < h1.next := Nat.lt_of_lt_of_le hq e1.next
  have hp1 : pb < h1.next := Nat.lt_of_lt_of_le hp e1.next
  have he1 := he.trans e1
  rw [← hi] at rg hQ
  refine br (i < 0) (e_lss hA _ _) (fun c1 => ?_) (fun c1 => ?_) <;> (try (conv => cbv)) <;> repeat (refine brk_ok hA ?_; (try (conv => cbv)))
  · exact hQ 6 0 h1 he1 e1.next (fun b hb _ _ => e1.get b hb) (by unfold serveE; rw [← hi, if_pos c1]) (fun _ => ⟨rfl, oq1, op1⟩) (fun h => by cases h)
  refine ⟨some ⟨pb, 0, none⟩, n, c, rd_fld0 hA (oq1.readG (by simp)), ?_⟩
  ((try (conv => cbv)); repeat (refine brk_ok hA ?_; (try (conv => cbv))))
  refine ⟨pb, 0, rfl, in_ok hA (by omega) (by omega), ?_⟩
  ((try (conv => cbv)); repeat (refine brk_ok hA ?_; (try (conv => cbv))))
  obtain ⟨b', o', nm, sh, us, wt, e', _, hpj, hr, f0, f1, f2, f3⟩ := (op1.projs hp1 hn).at (i := i) (by omega) (by omega)
  simp only [Option.some.injEq, Addr.mk.injEq, and_true] at e'
  obtain ⟨rfl, rfl⟩ := e'
  have hbd := hb _ (pj_mem l (by omega) (by omega : i < l.length))
  rw [hpj] at hbd hQ
  obtain ⟨q1, q2, q3, q4, q5, q6⟩ := hbd
  simp only at q1 q2 q3 q4 q5 q6 hQ
  refine ⟨us, rd_fld hA f2, ?_⟩
  ((try (conv => cbv)); repeat (refine brk_ok hA ?_; (try (conv => cbv))))
  refine br (1000000 ≤ us) (e_geq hA _ _) (fun c2 => ?_) (fun c2 => ?_) <;> (try (conv => cbv)) <;> repeat (refine brk_ok hA ?_; (try (conv => cbv)))
  · exact hQ 16 0 h1 he1 e1.next (fun b hb _ _ => e1.get b hb) (by unfold serveE; rw [← hi, if_neg c1, hpj, if_pos c2]) (fun _ => ⟨rfl, oq1, op1⟩) (fun h => by cases h)
  have gd : l.getD i.toNat noProj = ⟨nm, sh, us, wt⟩ := hpj
  obtain ⟨h2, w2, op2, wr2⟩ := op1.setP (i := i.toNat) (f := 3) (vs := [.int .i64 (wt - 1)]) (p := ⟨nm, sh, us, wt - 1⟩) (by omega) (by simp) (by rw [gd]; rfl)
  have oq2 := wr2.own oq1 hne
  have hp2 : pb < h2.next := by rw [wr2.next]; exact hp1
  refine ⟨wt, rd_fld hA f3, ?_⟩
  ((try (conv => cbv)); repeat (refine brk_ok hA ?_; (try (conv => cbv))))
  rw [sub64 hA (by omega) (by omega)]
  refine ⟨h2, wr_fld hA (by rw [Nat.zero_add]; exact w2), ?_⟩
  ((try (conv => cbv)); repeat (refine brk_ok hA ?_; (try (conv => cbv))))
  obtain ⟨b', o', nm', sh', us', wt', e', _, hpj2, hr, f0, f1, f2, f3⟩ := (op2.projs hp2 (n := n) (by simp; omega)).at (i := i) (by omega) (by omega)
  simp only [Option.some.injEq, Addr.mk.injEq, and_true] at e'
  obtain ⟨rfl, rfl⟩ := e'
  have hset := pj_set (l := l) (i := i) (j := i) (p := ⟨nm, sh, us, wt - 1⟩) (by omega) (by omega) (by omega)
  rw [if_pos rfl] at hset
  have hset2 : pj (l.set i.toNat ⟨nm, sh, us, wt - 1⟩) i = ⟨nm, sh, us, wt - 1⟩ := hset
  rw [hset2] at hpj2
  simp only [Proj.mk.injEq] at hpj2
  obtain ⟨rfl, rfl, rfl, rfl⟩ := hpj2
  refine ⟨us, rd_fld hA f2, ?_⟩
  ((try (conv => cbv)); repeat (refine brk_ok hA ?_; (try (conv => cbv))))
  rw [add64 hA (by omega) (by omega)]
  obtain ⟨h3, w3, op3, wr3⟩ := op2.setP (i := i.toNat) (f := 2) (vs := [.int .i64 (us + 1)]) (p := ⟨nm, sh, us + 1, wt - 1⟩) (by simp; omega) (by simp) (by
    rw [show (l.set i.toNat (⟨nm, sh, us, wt - 1⟩ : Proj)).getD i.toNat noProj = ⟨nm, sh, us, wt - 1⟩ from hset2]; rfl)
  rw [List.set_set] at op3
  have oq3 := wr3.own oq2 hne
  have hp3 : pb < h3.next := by rw [wr3.next]; exact hp2
  refine ⟨h3, wr_fld hA (by rw [Nat.zero_add]; exact w3), ?_⟩
  ((try (conv => cbv)); repeat (refine brk_ok hA ?_; (try (conv => cbv))))
  rw [e_bump hA]
  have e34 := Ext.bump h3 16
  have op4 := op3.ext e34 hp3
  have oq4 := oq3.ext e34 (by rw [wr3.next, wr2.next]; exact hq1)
  have hp4 : pb < (h3.bump 16).next := Nat.lt_of_lt_of_le hp3 e34.next
  have e04 : Ext h0 (h3.bump 16) := (wr3.ext (wr2.ext he1 hp0) hp0).trans e34
  have g4 : ∀ b, b < h.next → b ≠ qb → b ≠ pb → (h3.bump 16).m.get b = h.m.get b := fun b hb' h5 h6 => (wr3.get b h6).trans ((wr2.get b h6).trans (e1.get b hb'))
  have n4 : h.next ≤ (h3.bump 16).next := by have := e1.next; have := e34.next; have := wr3.next; have := wr2.next; omega
  generalize h3.bump 16 = h4 at *
  have hset3 : pj (l.set i.toNat ⟨nm, sh, us + 1, wt - 1⟩) i = ⟨nm, sh, us + 1, wt - 1⟩ := by
    have := pj_set (l := l) (i := i) (j := i) (p := ⟨nm, sh, us + 1, wt - 1⟩) (by omega) (by omega) (by omega)
    rw [if_pos rfl] at this; exact this
  obtain ⟨b', o', nm', sh', us', wt', e', _, hpj2, hr, f0, f1, f2, f3⟩ := (op4.projs hp4 (n := n) (by simp; omega)).at (i := i) (by omega) (by omega)
  simp only [Option.some.injEq, Addr.mk.injEq, and_true] at e'
  obtain ⟨rfl, rfl⟩ := e'
  rw [hset3] at hpj2
  simp only [Proj.mk.injEq] at hpj2
  obtain ⟨rfl, rfl, rfl, rfl⟩ := hpj2
  obtain ⟨u1, hu1⟩ : ∃ x, x = us + 1 := ⟨_, rfl⟩
  rw [← hu1] at f2
  refine ⟨u1, rd_fld hA f2, ?_⟩
  ((try (conv => cbv)); repeat (refine brk_ok hA ?_; (try (conv => cbv))))
  refine ⟨sh, rd_fld hA f1, ?_⟩
  ((try (conv => cbv)); repeat (refine brk_ok hA ?_; (try (conv => cbv))))
  obtain ⟨h5, w5, oq5, wr5⟩ := oq4.write (o := 1) (vs := [.int .i64 u1]) (by simp)
  refine ⟨h5, wr_fld0 hA w5, ?_⟩
  ((try (conv => cbv)); repeat (refine brk_ok hA ?_; (try (conv => cbv))))
  obtain ⟨h6, w6, oq6, wr6⟩ := oq5.write (o := 2) (vs := [.int .i64 sh]) (by simp)
  refine ⟨h6, wr_fld0 hA w6, ?_⟩
  ((try (conv => cbv)); repeat (refine brk_ok hA ?_; (try (conv => cbv))))
  subst hu1
  refine hQ 0 i h6 (wr6.ext (wr5.ext e04 hq0) hq0) (by rw [wr6.next, wr5.next]; exact n4) (fun b hb' h7 h8 => (wr6.get b h7).trans ((wr5.get b h7).trans (g4 b hb' h7 h8))) (by unfold serveE; rw [← hi, if_neg c1, hpj, if_neg c2]) (fun h => absurd rfl h) (fun _ => ⟨rfl, oq6, ?_⟩)
  have : serveL l = l.set i.toNat ⟨nm, sh, us + 1, wt - 1⟩ := by unfold serveL setP; rw [← hi, hpj]; rfl
  rw [this]
  exact wr6.own (wr5.own op4 hne.symm) hne.symm

end Go.Proofs.Ytlpnmdknlfmjaaa
namespace Go.Proofs.Ytlpnmdknlfmjaaa
open Go.Sim
set_option linter.unusedVariables false
set_option maxRecDepth 100000

theorem checkQ_zero {l : List Proj} {nu de : Int} (h : checkQ l nu de = 0) : l.length ≤ 8 ∧ ¬ twice l ∧ 1 ≤ l.length ∧ (1 ≤ de ∧ de ≤ 100) ∧ (0 ≤ nu ∧ nu ≤ 1000000) ∧ allFit nu de l := by
  unfold checkQ at h
  split at h
  · omega
  split at h
  · omega
  split at h
  · omega
  split at h
  · rename_i h1 h2 h3 h4
    refine ⟨by omega, h2, by omega, by omega, by omega, h4⟩
  · omega

theorem checkQ_bounds {l : List Proj} {nu de : Int} (h : checkQ l nu de = 0) : bounds l := by
  obtain ⟨_, _, _, _, _, hf⟩ := checkQ_zero h
  intro p hp
  obtain ⟨j, hj, rfl⟩ := List.getElem_of_mem hp
  have := (hf j (by omega) (by omega)).1
  unfold pj at this
  rw [Int.toNat_natCast, pj_at l hj] at this
  obtain ⟨_, h1, h2, h3, h4, h5, h6⟩ := this
  exact ⟨h1, h2, h3, h4, h5, h6⟩

noncomputable def nextE (l : List Proj) (nu de : Int) : Int := if checkQ l nu de = 0 then serveE l else checkQ l nu de
def newNu (l : List Proj) : Int := (pj l (turnF l)).used + 1
def newDe (l : List Proj) : Int := (pj l (turnF l)).share

variable {call : FuncId → List Value → AHeap → (Value → AHeap → Prop) → Prop}
  {head : FuncId → Nat → Nat → SS → (Exit → SS → Prop) → Prop}
  {arith : BinOp → IntKind → Int → Int → Int}
  {cmp : BinOp → Int → Int → Bool}
  {scmp : BinOp → ByteArray → ByteArray → Bool}
  {bnot : Bool → Bool}
  {bsame : Bool → Bool → Bool}
  {conv : IntKind → Int → Int}
  {neg : IntKind → Int → Int}
  {imax : Int → Int → Int}
  {imin : Int → Int → Int}
  {ofNat : Nat → Int}
  {slen : ByteArray → Int}
  {place : Nat → Int → Nat → Nat}
  {inR : Int → Nat → Prop}
  {nz : Int → Prop}
  {geZ : Int → Prop}
  {rd : AHeap → Nat → Nat → Nat → List Value → Prop}
  {wr : AHeap → Nat → Nat → List Value → AHeap → Prop}
  {push : AHeap → Nat → List Value → AHeap}
  {next : AHeap → Nat}
  {mkOK : Int → Int → Prop}
  {nat : Int → Nat}
  {zeros : List Value → Int → List Value}
  {sadd : ByteArray → ByteArray → (ByteArray → Prop) → Prop}
  {eqAgg : TypeId → Array Value → Array Value → (Bool → Prop) → Prop}
  {cut : Nat → Int → Prop}
  {slc : TypeId → Value → Option Value → Option Value → Option Value → (Option Addr → Nat → Nat → Prop) → Prop}
  {sslc : TypeId → ByteArray → Option Value → Option Value → (ByteArray → Prop) → Prop}
  {strAt : ByteArray → Int → (Int → Prop) → Prop}
  {part : TypeId → Array Value → Nat → Value → Prop}
  {app : List TypeId → List Value → AHeap → (Option Addr → Nat → Nat → AHeap → Prop) → Prop}
  {cpy : List TypeId → List Value → AHeap → (Int → AHeap → Prop) → Prop}
  {putAt : AHeap → Nat → Nat → List Value → AHeap}
  {fresh : AHeap → AHeap}
  {lowered : AHeap → AHeap → AHeap}
  {bump : AHeap → Nat → AHeap}
  {wrote : AHeap → AHeap → Bool}
  {addN : Nat → Nat → Nat}
  {lt : Nat → Nat → Prop}
  {ne : Nat → Nat → Prop}
  {fpAll : Bool → Bool → Bool → Nat → Nat → Prop}
  {brk : (Unit → Prop) → Prop}
  (hA : AOK progU hint prims ⟨call, head, arith, cmp, scmp, bnot, bsame, conv, neg, imax, imin, ofNat, slen, place, inR, nz, geZ, rd, wr, push, next, mkOK, nat, zeros, sadd, eqAgg, cut, slc, sslc, strAt, part, app, cpy, putAt, fresh, lowered, bump, wrote, addN, lt, ne, fpAll, brk⟩)
include hA

theorem nextQ_ok {h : AHeap} (hlow : h.low ≤ h.next) {a : Option Addr} {n c : Nat} (hn : n ≤ 1000000) (hc : n ≤ capLow c) {l : List Proj} (hs : Projs h a n l) (hsh : shortN l) (nu de : Int) {Q : Value → AHeap → Prop}
    (hbad : ∀ e h', Ext h h' → e = nextE l nu de → e ≠ 0 → Q (.tuple #[.agg #[.slice none 0 0, .int .i64 0, .int .i64 0], .int .i64 0, .int .i64 e]) h')
    (hok : ∀ b i u s h', Ext h h' → h.next ≤ b → b < h'.next → Own h' b 4 (flatP (serveL l)) → nextE l nu de = 0 → i = turnF l → u = newNu l → s = newDe l → Q (.tuple #[.agg #[.slice (some ⟨b, 0, none⟩) n n, .int .i64 u, .int .i64 s], .int .i64 i, .int .i64 0]) h') :
    call 11 [.agg #[.slice a n c, .int .i64 nu, .int .i64 de]] h Q := by
  have hl := hs.len
  refine hA.bodyR Try.func11 r11_ok (show prims _ _ _ = none from rfl) hlow ?_; (try (conv => cbv)); repeat (refine brk_ok hA ?_; (try (conv => cbv)))
  refine check_ok hA hlow hn hc hs hsh nu de (fun r h1 hr e1 => ⟨_, rfl, ?_⟩)
  ((try (conv => cbv)); repeat (refine brk_ok hA ?_; (try (conv => cbv))))
  refine br (r ≠ 0) (e_neq hA _ _) (fun c1 => ?_) (fun c1 => ?_) <;> (try (conv => cbv)) <;> repeat (refine brk_ok hA ?_; (try (conv => cbv)))
  · exact hbad r h1 e1 (by unfold nextE; rw [← hr, if_neg c1]) c1
  have hz : checkQ l nu de = 0 := by omega
  have hE : nextE l nu de = serveE l := by unfold nextE; rw [if_pos hz]
  have hbd := checkQ_bounds hz
  have h8 := (checkQ_zero hz).1
  rw [hE] at hbad hok
  refine copied_ok hA (e1.lowOK hlow) hn (hs.ext e1) nu de (fun b h2 e2 hb0 hb1 ob => ⟨_, _, _, _, _, rfl, ?_⟩)
  ((try (conv => cbv)); repeat (refine brk_ok hA ?_; (try (conv => cbv))))
  have e3 := Ext.push h2 3 [.slice none 0 0, .int .i64 0, .int .i64 0]
  have o3 := Own.push h2 3 [.slice none 0 0, .int .i64 0, .int .i64 0]
  have x3 : h2.next < (h2.push 3 [.slice none 0 0, .int .i64 0, .int .i64 0]).next := Nat.lt_succ_self _
  simp only [e_push hA, e_next hA]
  generalize h2.push 3 [Value.slice none 0 0, Value.int IntKind.i64 0, Value.int IntKind.i64 0] = h3 at *
  obtain ⟨qb, hqb⟩ : ∃ x, x = h2.next := ⟨_, rfl⟩
  rw [← hqb] at o3 x3 ⊢
  have n1 := e1.next
  have n2 := e2.next
  have n3 := e3.next
  obtain ⟨h4, w4, oq4, wr4⟩ := o3.write (o := 0) (vs := [.slice (some ⟨b, 0, none⟩) n n, .int .i64 nu, .int .i64 de]) (by simp)
  have e04 : Ext h h4 := wr4.ext ((e1.trans e2).trans e3) (by omega)
  refine ⟨h4, wr_at hA w4, ?_⟩
  ((try (conv => cbv)); repeat (refine brk_ok hA ?_; (try (conv => cbv))))
  refine serve_ok hA e04 hlow (qb := qb) (pb := b) (by omega) (by omega) (by rw [wr4.next]; exact x3) (by rw [wr4.next]; omega) (by omega) hl.symm (by omega) hbd oq4 (wr4.own (ob.ext e3 hb1) (by omega)) (fun e i h5 e05 n5 _ he hb1' hb2' => ⟨_, _, rfl, ?_⟩)
  ((try (conv => cbv)); repeat (refine brk_ok hA ?_; (try (conv => cbv))))
  refine br (e ≠ 0) (e_neq hA _ _) (fun c2 => ?_) (fun c2 => ?_) <;> (try (conv => cbv)) <;> repeat (refine brk_ok hA ?_; (try (conv => cbv)))
  · exact hbad e h5 e05 he c2
  obtain ⟨hi, oq5, op5⟩ := hb2' (by omega)
  have n4 := wr4.next
  obtain ⟨u, hu⟩ : ∃ x, x = newNu l := ⟨_, rfl⟩
  obtain ⟨s, hs'⟩ : ∃ x, x = newDe l := ⟨_, rfl⟩
  have oq6 : Own h5 qb 3 [.slice (some ⟨b, 0, none⟩) n n, .int .i64 u, .int .i64 s] := by rw [hu, hs']; exact oq5
  refine ⟨some ⟨b, 0, none⟩, n, n, u, s, rd_at hA (oq6.readG (by simp)), ?_⟩
  ((try (conv => cbv)); repeat (refine brk_ok hA ?_; (try (conv => cbv))))
  exact hok b i u s h5 e05 (by omega) (by omega) op5 (by omega) hi hu hs'

theorem rnext_ok {h : AHeap} (hlow : h.low ≤ h.next) {a : Option Addr} {n c : Nat} (hn : n ≤ 1000000) {l : List Proj} (hs : Projs h a n l) (hsh : shortN l) (nu de : Int) {Q : Value → AHeap → Prop}
    (hbad : ∀ e h', Ext h h' → e = nextE l nu de → e ≠ 0 → Q (.tuple #[.agg #[.slice none 0 0, .int .i64 0, .int .i64 0], .int .i64 0, .int .i64 e]) h')
    (hok : ∀ b i u s c' h', Ext h h' → h.next ≤ b → b < h'.next → Own h' b 4 (flatP (serveL l)) → nextE l nu de = 0 → i = turnF l → u = newNu l → s = newDe l → Q (.tuple #[.agg #[.slice (some ⟨b, 0, none⟩) n c', .int .i64 u, .int .i64 s], .int .i64 i, .int .i64 0]) h') :
    call 12 [.agg #[.slice a n c, .int .i64 nu, .int .i64 de]] h Q := by
  have hl := hs.len
  refine hA.bodyR Try.func12 r12_ok (show prims _ _ _ = none from rfl) hlow ?_; (try (conv => cbv)); repeat (refine brk_ok hA ?_; (try (conv => cbv)))
  refine rcheck_ok hA hlow hn hs hsh nu de (fun r h1 hr e1 => ⟨_, rfl, ?_⟩)
  ((try (conv => cbv)); repeat (refine brk_ok hA ?_; (try (conv => cbv))))
  refine br (r ≠ 0) (e_neq hA _ _) (fun c1 => ?_) (fun c1 => ?_) <;> (try (conv => cbv)) <;> repeat (refine brk_ok hA ?_; (try (conv => cbv)))
  · exact hbad r h1 e1 (by unfold nextE; rw [← hr, if_neg c1]) c1
  have hz : checkQ l nu de = 0 := by omega
  have hE : nextE l nu de = serveE l := by unfold nextE; rw [if_pos hz]
  have hbd := checkQ_bounds hz
  have h8 := (checkQ_zero hz).1
  rw [hE] at hbad hok
  refine rturn_ok hA (e1.lowOK hlow) (by omega) (hs.ext e1) hbd nu de (fun i h2 e2 hi => ⟨_, rfl, ?_⟩)
  ((try (conv => cbv)); repeat (refine brk_ok hA ?_; (try (conv => cbv))))
  have e12 := e1.trans e2
  have rg := turnF_range l
  rw [← hi] at rg
  refine br (i < 0) (e_lss hA _ _) (fun c2 => ?_) (fun c2 => ?_) <;> (try (conv => cbv)) <;> repeat (refine brk_ok hA ?_; (try (conv => cbv)))
  · exact hbad 6 h2 e12 (by unfold serveE; rw [← hi, if_pos c2]) (by omega)
  obtain ⟨b, o, nm, sh, us, wt, rfl, hb3, hp, hr9, f0, f1, f2, f3⟩ := (hs.ext e12).at (i := i) (by omega) (by omega)
  have hb9 := hbd _ (pj_mem l (by omega) (by omega : i < l.length))
  rw [hp] at hb9
  obtain ⟨q1, q2, q3, q4, q5, q6⟩ := hb9
  simp only at q1 q2 q3 q4 q5 q6
  refine ⟨b, o, rfl, in_ok hA (by omega) (by omega), ?_⟩
  ((try (conv => cbv)); repeat (refine brk_ok hA ?_; (try (conv => cbv))))
  refine ⟨us, rd_fld hA f2, ?_⟩
  ((try (conv => cbv)); repeat (refine brk_ok hA ?_; (try (conv => cbv))))
  refine br (us = 1000000) (e_eql hA _ _) (fun c3 => ?_) (fun c3 => ?_) <;> (try (conv => cbv)) <;> repeat (refine brk_ok hA ?_; (try (conv => cbv)))
  · exact hbad 16 h2 e12 (by unfold serveE; rw [← hi, if_neg c2, hp, if_pos (by simp only; omega)]) (by omega)
  refine twin_ok hA (e12.lowOK hlow) hn (hs.ext e12) nu de (fun pb c' h3 e3 hb0 hb1 op1 => ⟨_, _, _, _, _, rfl, ?_⟩)
  ((try (conv => cbv)); repeat (refine brk_ok hA ?_; (try (conv => cbv))))
  have i0 : 0 ≤ i := by omega
  have i1 : i < l.length := by omega
  have e13 := e12.trans e3
  have n12 := e12.next
  refine ⟨pb, 0, rfl, in_ok hA i0 (by omega), ?_⟩
  ((try (conv => cbv)); repeat (refine brk_ok hA ?_; (try (conv => cbv))))
  refine ⟨wt, rd_fld hA (own_at op1 i0 i1 hp 3 1 (by omega)), ?_⟩
  ((try (conv => cbv)); repeat (refine brk_ok hA ?_; (try (conv => cbv))))
  rw [sub64 hA (by omega) (by omega)]
  obtain ⟨h4, w4, op4, wr4⟩ := own_put op1 i0 i1 hp ⟨nm, sh, us, wt - 1⟩ 3 [.int .i64 (wt - 1)] (by simp) rfl
  refine ⟨pb, 0, rfl, in_ok hA i0 (by omega), ?_⟩
  ((try (conv => cbv)); repeat (refine brk_ok hA ?_; (try (conv => cbv))))
  refine ⟨h4, wr_fld hA w4, ?_⟩
  ((try (conv => cbv)); repeat (refine brk_ok hA ?_; (try (conv => cbv))))
  have l4 := setP_len l i ⟨nm, sh, us, wt - 1⟩
  refine ⟨pb, 0, rfl, in_ok hA i0 (by omega), ?_⟩
  ((try (conv => cbv)); repeat (refine brk_ok hA ?_; (try (conv => cbv))))
  refine ⟨us, rd_fld hA (own_at op4 i0 (by omega) (pj_self i0 i1) 2 1 (by omega)), ?_⟩
  ((try (conv => cbv)); repeat (refine brk_ok hA ?_; (try (conv => cbv))))
  rw [add64 hA (by omega) (by omega)]
  obtain ⟨u1, hu1⟩ : ∃ x, x = us + 1 := ⟨_, rfl⟩
  rw [← hu1]
  obtain ⟨h5, w5, op5, wr5⟩ := own_put op4 i0 (by omega) (pj_self i0 i1) ⟨nm, sh, u1, wt - 1⟩ 2 [.int .i64 u1] (by simp) rfl
  rw [setP_set] at op5
  refine ⟨pb, 0, rfl, in_ok hA i0 (by omega), ?_⟩
  ((try (conv => cbv)); repeat (refine brk_ok hA ?_; (try (conv => cbv))))
  refine ⟨h5, wr_fld hA w5, ?_⟩
  ((try (conv => cbv)); repeat (refine brk_ok hA ?_; (try (conv => cbv))))
  have l5 := setP_len l i ⟨nm, sh, u1, wt - 1⟩
  have n4 := wr4.next
  have n5 := wr5.next
  have e05 : Ext h h5 := wr5.ext (wr4.ext e13 (by omega)) (by omega)
  rw [e_bump hA]
  have e6 := Ext.bump h5 16
  have op6 := op5.ext e6 (by omega)
  have n6 := e6.next
  have e06 := e05.trans e6
  generalize h5.bump 16 = h6 at *
  refine ⟨pb, 0, rfl, in_ok hA i0 (by omega), ?_⟩
  ((try (conv => cbv)); repeat (refine brk_ok hA ?_; (try (conv => cbv))))
  refine ⟨u1, rd_fld hA (own_at op6 i0 (by omega) (pj_self i0 i1) 2 1 (by omega)), ?_⟩
  ((try (conv => cbv)); repeat (refine brk_ok hA ?_; (try (conv => cbv))))
  refine ⟨pb, 0, rfl, in_ok hA i0 (by omega), ?_⟩
  ((try (conv => cbv)); repeat (refine brk_ok hA ?_; (try (conv => cbv))))
  refine ⟨sh, rd_fld hA (own_at op6 i0 (by omega) (pj_self i0 i1) 1 1 (by omega)), ?_⟩
  ((try (conv => cbv)); repeat (refine brk_ok hA ?_; (try (conv => cbv))))
  refine hok pb i u1 sh c' h6 e06 (by omega) (by omega) ?_ ?_ hi ?_ ?_
  · unfold serveL; rw [← hi, hp]; unfold served; simp only []; rw [← hu1]; exact op6
  · unfold serveE; rw [← hi, if_neg c2, hp, if_neg (by simp only; omega)]
  · unfold newNu; rw [← hi, hp]; exact hu1
  · unfold newDe; rw [← hi, hp]

end Go.Proofs.Ytlpnmdknlfmjaaa
