/-
  MARKS; Needs, of the reference (fringeref44.marked, names, Needs).
-/
import Derived.Test.YtopppccddnplkaaONeeds
namespace Go.Proofs.Ytopppccddnplkaa
open Go.Sim
open Classical
set_option linter.unusedVariables false
set_option maxRecDepth 100000

/-- Marks in a block of their own. -/
structure MB (h : AHeap) (b n : Nat) (P : Int → Prop) : Prop where
  ex : ∃ bs : List Bool, Own h b 1 (bs.map .bool) ∧ bs.length = n ∧ ∀ j : Int, 0 ≤ j → j < n → (bs.getD j.toNat false = true ↔ P j)
  lt : b < h.next
theorem MB.ext {h h' : AHeap} {b n : Nat} {P : Int → Prop} (p : MB h b n P) (e : Ext h h') : MB h' b n P := by
  obtain ⟨bs, h1, h2, h3⟩ := p.ex
  exact ⟨⟨bs, h1.ext e p.lt, h2, h3⟩, Nat.lt_of_lt_of_le p.lt e.next⟩
theorem MB.cong {h : AHeap} {b n : Nat} {P P' : Int → Prop} (p : MB h b n P) (e : ∀ j : Int, 0 ≤ j → j < n → (P j ↔ P' j)) : MB h b n P' := by
  obtain ⟨bs, h1, h2, h3⟩ := p.ex
  exact ⟨⟨bs, h1, h2, fun j j0 j1 => (h3 j j0 j1).trans (e j j0 j1)⟩, p.lt⟩
theorem MB.get {h : AHeap} {b n : Nat} {P : Int → Prop} (p : MB h b n P) {i : Int} (h0 : 0 ≤ i) (h1 : i < n) : ∃ v : Bool, h.readG ⟨b, 0 + i.toNat * 1, none⟩ 1 = some [.bool v] ∧ (v = true ↔ P i) := by
  obtain ⟨bs, o, hl, hp⟩ := p.ex
  refine ⟨bs.getD i.toNat false, ?_, hp i h0 h1⟩
  rw [Nat.zero_add, Nat.mul_one, o.readG (by simp; omega), take_one _ _ (.bool (bs.getD i.toNat false)) (by rw [List.getElem?_map, getD_some bs i.toNat false (by omega)]; rfl)]
theorem MB.set {h : AHeap} {b n : Nat} {P : Int → Prop} (p : MB h b n P) {i : Int} (h0 : 0 ≤ i) (h1 : i < n) (v : Bool) :
    ∃ h', h.write b (0 + i.toNat * 1) [.bool v] = some h' ∧ MB h' b n (fun j => (j = i ∧ v = true) ∨ (j ≠ i ∧ P j)) ∧ Wrote h h' b := by
  obtain ⟨bs, o, hl, hp⟩ := p.ex
  obtain ⟨h', w1, w2, w3⟩ := o.write (o := i.toNat) (vs := [.bool v]) (by simp; omega)
  refine ⟨h', by rw [Nat.zero_add, Nat.mul_one]; exact w1, ⟨⟨bs.set i.toNat v, ?_, by simp [hl], fun j j0 j1 => ?_⟩, by rw [w3.next]; exact p.lt⟩, w3⟩
  · have e : (bs.map Value.bool).take i.toNat ++ ([Value.bool v] ++ (bs.map Value.bool).drop (i.toNat + 1)) = (bs.set i.toNat v).map .bool := by
      rw [set_take_drop _ _ _ (by simp; omega), List.map_set]
    rw [← e]
    exact w2
  · rw [List.getD, List.getElem?_set]
    by_cases e : j = i
    · subst e
      rw [if_pos rfl, if_pos (by omega)]
      simp
    · rw [if_neg (by omega)]
      have := hp j j0 j1
      rw [List.getD] at this
      rw [this]
      simp [e]
theorem MB.wrote {h h' : AHeap} {b b' n : Nat} {P : Int → Prop} (p : MB h b n P) (w : Wrote h h' b') (hb : b ≠ b') : MB h' b n P := by
  obtain ⟨bs, h1, h2, h3⟩ := p.ex
  exact ⟨⟨bs, w.own h1 hb, h2, h3⟩, by rw [w.next]; exact p.lt⟩
theorem copies_bool (n : Nat) : copies [.bool false] n = (List.replicate n false).map .bool := by
  induction n with
  | zero => rfl
  | succ n ih => show Value.bool false :: copies [.bool false] n = _; rw [ih]; rfl
theorem MB.new (h : AHeap) (n : Nat) : MB (h.push 1 (copies [.bool false] n)) h.next n (fun _ => False) := by
  refine ⟨⟨List.replicate n false, by rw [copies_bool]; exact Own.push _ _ _, by simp, fun j j0 j1 => ?_⟩, Nat.lt_succ_self _⟩
  have hj : j.toNat < n := by omega
  simp [List.getD, hj]

variable {call : FuncId → List Value → AHeap → (Value → AHeap → Prop) → Prop}
  {head : FuncId → Nat → Nat → SS → (Exit → SS → Prop) → Prop}
  {arith : BinOp → IntKind → Int → Int → Int}
  {cmp : BinOp → Int → Int → Bool}
  {scmp : BinOp → ByteArray → ByteArray → Bool}
  {bnot : Bool → Bool}
  {bsame : Bool → Bool → Bool}
  {conv : IntKind → Int → Int}
  {neg : IntKind → Int → Int}
  {imax : Int → Int → Int}
  {imin : Int → Int → Int}
  {ofNat : Nat → Int}
  {slen : ByteArray → Int}
  {place : Nat → Int → Nat → Nat}
  {inR : Int → Nat → Prop}
  {nz : Int → Prop}
  {geZ : Int → Prop}
  {rd : AHeap → Nat → Nat → Nat → List Value → Prop}
  {wr : AHeap → Nat → Nat → List Value → AHeap → Prop}
  {push : AHeap → Nat → List Value → AHeap}
  {next : AHeap → Nat}
  {mkOK : Int → Int → Prop}
  {nat : Int → Nat}
  {zeros : List Value → Int → List Value}
  {sadd : ByteArray → ByteArray → (ByteArray → Prop) → Prop}
  {eqAgg : TypeId → Array Value → Array Value → (Bool → Prop) → Prop}
  {cut : Nat → Int → Prop}
  {slc : TypeId → Value → Option Value → Option Value → Option Value → (Option Addr → Nat → Nat → Prop) → Prop}
  {sslc : TypeId → ByteArray → Option Value → Option Value → (ByteArray → Prop) → Prop}
  {strAt : ByteArray → Int → (Int → Prop) → Prop}
  {part : TypeId → Array Value → Nat → Value → Prop}
  {app : List TypeId → List Value → AHeap → (Option Addr → Nat → Nat → AHeap → Prop) → Prop}
  {cpy : List TypeId → List Value → AHeap → (Int → AHeap → Prop) → Prop}
  {putAt : AHeap → Nat → Nat → List Value → AHeap}
  {fresh : AHeap → AHeap}
  {lowered : AHeap → AHeap → AHeap}
  {bump : AHeap → Nat → AHeap}
  {wrote : AHeap → AHeap → Bool}
  {addN : Nat → Nat → Nat}
  {lt : Nat → Nat → Prop}
  {ne : Nat → Nat → Prop}
  {fpAll : Bool → Bool → Bool → Nat → Nat → Prop}
  {brk : (Unit → Prop) → Prop}
  {yn : Nat → Nat}
  {rng : FuncId → Nat → SS → (Exit → SS → Prop) → Prop}
  {mget : TypeId → Value → Value → AHeap → Value → Bool → Prop}
  {mput : TypeId → Value → Value → Value → AHeap → AHeap → Prop}
  {mnew : AHeap → AHeap}
  {bytes : TypeId → TypeId → Option Addr → Nat → AHeap → ByteArray → Prop}
  {clr : List TypeId → List Value → AHeap → AHeap → Prop}
  (hA : AOK progU hint prims ⟨call, head, arith, cmp, scmp, bnot, bsame, conv, neg, imax, imin, ofNat, slen, place, inR, nz, geZ, rd, wr, push, next, mkOK, nat, zeros, sadd, eqAgg, cut, slc, sslc, strAt, part, app, cpy, putAt, fresh, lowered, bump, wrote, addN, lt, ne, fpAll, brk, yn, rng, mget, mput, mnew, bytes, clr⟩)
include hA

theorem mark_inner {h0 : AHeap} (hlow0 : h0.low ≤ h0.next) {al : Option Addr} {nl cl : Nat} {l : List Rec} (hl : Recs h0 al nl l) (hnl : (nl : Int) ≤ 40) (hok : okL l) (hp : Prov l) {i0 : Int} (z0 : 0 ≤ i0) (z1 : i0 < l.length) {had : Int → Prop} {bm bh cm ch : Nat} (hbm : h0.next ≤ bm) (hbh : bh ≠ bm) {j : Int} (j0 : 0 ≤ j) (j1 : j < nl) {Q : Exit → SS → Prop}
    (h1 : ∀ h', Ext h0 h' → MB h' bm nl (DueA l had i0 (j - 1)) → MB h' bh nl had → Q (.exit 2) ⟨[(0, .slice al nl cl), (1, .slice (some ⟨bm, 0, none⟩) nl cm), (2, .slice (some ⟨bh, 0, none⟩) nl ch), (7, .int .i64 j)], 0, [], h'⟩) :
    ∀ k : Int, 0 ≤ k → k ≤ (rat l j).frm.length → ∀ h, Ext h0 h → MB h bm nl (fun u => DueA l had i0 j u ∨ (Due l had i0 j ∧ (∃ f ∈ (rat l j).frm.take k.toNat, idxOf l f = u) ∧ ¬ had u)) → MB h bh nl had → (k = 0 ∨ Due l had i0 j) →
      head 39 5 0 ⟨[(0, .slice al nl cl), (1, .slice (some ⟨bm, 0, none⟩) nl cm), (2, .slice (some ⟨bh, 0, none⟩) nl ch), (7, .int .i64 j), (8, .int .i64 k)], 0, [], h⟩ Q := by
  have hll := hl.len
  obtain ⟨ok1, ok2, ok3⟩ := okL_at hok j0 (by omega : j < l.length)
  have hself := due_here (had := had) hp z0 z1 j0
  have hnext := due_next (had := had) hp z0 z1 j0 (by omega)
  refine countUp (fun k hk0 hkn ih h e hm hh hkd => ?_)
  obtain ⟨b, o, x, hae, hbn, rel, _, _, _, r2, _⟩ := hl.at2 e j0 (by omega)
  obtain ⟨xnm, xhow, xfa, xfn, xfc, xarg, xda, xdn, xdc, xdg⟩ := x
  have hfr : Strs h0 xfa xfn xfc (rat l j).frm := rel.frm
  have hfl := hfr.len
  simp only [] at r2
  have hdown := hp.down j j0 (by omega)
  refine hA.roundR Try.func39 r39_ok ?_; (try (conv => cbv)); repeat (refine brk_ok hA ?_; (try (conv => cbv)))
  refine ⟨b, o, hae, in_ok hA j0 (by omega), ?_⟩
  ((try (conv => cbv)); repeat (refine brk_ok hA ?_; (try (conv => cbv))))
  refine ⟨xfa, xfn, xfc, rd_fld hA r2, ?_⟩
  ((try (conv => cbv)); repeat (refine brk_ok hA ?_; (try (conv => cbv))))
  have hjm : (DueA l had i0 j j ∨ (Due l had i0 j ∧ (∃ f ∈ (rat l j).frm.take k.toNat, idxOf l f = j) ∧ ¬ had j)) ↔ Due l had i0 j := by
    constructor
    · rintro (q | ⟨q, _⟩)
      · exact hself.1 q
      · exact q
    · exact fun q => .inl (hself.2 q)
  refine br (k < xfn) (by rw [e_lss hA, e_ofNat hA]) (fun c1 => ?_) (fun c1 => ?_) <;> (try (conv => cbv)) <;> repeat (refine brk_ok hA ?_; (try (conv => cbv)))
  · obtain ⟨v, rv, hv⟩ := hm.get j0 j1
    rw [hjm] at hv
    refine ⟨bm, 0, rfl, in_ok hA j0 (by omega), ?_⟩
    ((try (conv => cbv)); repeat (refine brk_ok hA ?_; (try (conv => cbv))))
    refine ⟨v, rd_ok hA rv, ?_⟩
    cases v with
    | false =>
      ((try (conv => cbv)); repeat (refine brk_ok hA ?_; (try (conv => cbv))))
      have hnd : ¬ Due l had i0 j := fun q => by have := hv.2 q; cases this
      refine h1 h e (hm.cong (fun u u0 u1 => ?_)) hh
      rw [hnext u]
      exact ⟨fun q => q.elim .inl (fun q => absurd q.1 hnd), fun q => q.elim .inl (fun q => absurd q.1 hnd)⟩
    | true =>
      have hd := hv.1 rfl
      ((try (conv => cbv)); repeat (refine brk_ok hA ?_; (try (conv => cbv))))
      refine ⟨b, o, hae, in_ok hA j0 (by omega), ?_⟩
      ((try (conv => cbv)); repeat (refine brk_ok hA ?_; (try (conv => cbv))))
      refine ⟨xfa, xfn, xfc, rd_fld hA r2, ?_⟩
      ((try (conv => cbv)); repeat (refine brk_ok hA ?_; (try (conv => cbv))))
      obtain ⟨b2, o2, s, hae2, hbn2, hs, hrd2⟩ := (hfr.ext e).at hk0 c1
      refine ⟨b2, o2, hae2, in_ok hA hk0 c1, ?_⟩
      ((try (conv => cbv)); repeat (refine brk_ok hA ?_; (try (conv => cbv))))
      refine ⟨s, rd_ok hA hrd2, ?_⟩
      ((try (conv => cbv)); repeat (refine brk_ok hA ?_; (try (conv => cbv))))
      refine idx_ok hA (e.lowOK hlow0) (hl.ext e) (by omega) (fun kk hkk => ⟨_, rfl, ?_⟩)
      ((try (conv => cbv)); repeat (refine brk_ok hA ?_; (try (conv => cbv))))
      have hmem : sat' (rat l j).frm k ∈ (rat l j).frm := by
        unfold sat'
        rw [List.getD, List.getElem?_eq_getElem (by omega)]
        exact List.getElem_mem _
      have hkr := hdown _ hmem
      rw [← hs, ← hkk] at hkr
      obtain ⟨w, rw_, hw⟩ := hh.get hkr.1 (by omega)
      refine ⟨bh, 0, rfl, in_ok hA hkr.1 (by omega), ?_⟩
      ((try (conv => cbv)); repeat (refine brk_ok hA ?_; (try (conv => cbv))))
      refine ⟨w, rd_ok hA rw_, ?_⟩
      ((try (conv => cbv)); repeat (refine brk_ok hA ?_; (try (conv => cbv))))
      have ha : arith .add .i64 k 1 = k + 1 := add64 hA (by omega) (by omega)
      have htk : (rat l j).frm.take (k + 1).toNat = (rat l j).frm.take k.toNat ++ [s] := by
        rw [hs, toNat_succ hk0, List.take_add_one, getD_some (rat l j).frm k.toNat ByteArray.empty (by omega)]
        rfl
      have hstep : ∀ u, (∃ f ∈ (rat l j).frm.take (k + 1).toNat, idxOf l f = u) ↔ (∃ f ∈ (rat l j).frm.take k.toNat, idxOf l f = u) ∨ u = kk := by
        intro u
        rw [htk]
        constructor
        · rintro ⟨f, hf, q⟩
          rcases List.mem_append.1 hf with m | m
          · exact .inl ⟨f, m, q⟩
          · rw [List.mem_singleton.1 m] at q; exact .inr (by rw [← q, hkk])
        · rintro (⟨f, hf, q⟩ | q)
          · exact ⟨f, List.mem_append_left _ hf, q⟩
          · exact ⟨s, List.mem_append_right _ (List.mem_singleton.2 rfl), by rw [q, hkk]⟩
      have bt : bnot true = false := by rw [e_bnot hA]; rfl
      have bf : bnot false = true := by rw [e_bnot hA]; rfl
      cases w with
      | true =>
        rw [bt]
        ((try (conv => cbv)); repeat (refine brk_ok hA ?_; (try (conv => cbv))))
        rw [ha]
        refine ih (by omega) h e (hm.cong (fun u u0 u1 => ?_)) hh (.inr hd)
        rw [hstep u]
        constructor
        · rintro (q | ⟨q1, q2, q3⟩)
          · exact .inl q
          · exact .inr ⟨q1, .inl q2, q3⟩
        · rintro (q | ⟨q1, q2 | q2, q3⟩)
          · exact .inl q
          · exact .inr ⟨q1, q2, q3⟩
          · rw [q2] at q3; exact absurd (hw.1 rfl) q3
      | false =>
        rw [bf]
        ((try (conv => cbv)); repeat (refine brk_ok hA ?_; (try (conv => cbv))))
        obtain ⟨h', w1, w2, w3⟩ := hm.set hkr.1 (by omega) true
        refine ⟨bm, 0, rfl, in_ok hA hkr.1 (by omega), ?_⟩
        ((try (conv => cbv)); repeat (refine brk_ok hA ?_; (try (conv => cbv))))
        refine ⟨h', wr_ok hA w1, ?_⟩
        ((try (conv => cbv)); repeat (refine brk_ok hA ?_; (try (conv => cbv))))
        rw [ha]
        refine ih (by omega) h' (w3.ext e hbm) (w2.cong (fun u u0 u1 => ?_)) (hh.wrote w3 hbh) (.inr hd)
        rw [hstep u]
        have hnk : ¬ had kk := fun q => by have := hw.2 q; cases this
        by_cases eu : u = kk
        · subst eu
          simp only [true_and, ne_eq, not_true_eq_false, false_and, or_false, true_iff]
          exact .inr ⟨hd, .inr trivial, hnk⟩
        · simp only [eu, false_and, ne_eq, not_false_eq_true, true_and, false_or, or_false]
  · refine h1 h e (hm.cong (fun u u0 u1 => ?_)) hh
    rw [hnext u, List.take_of_length_le (by omega)]
    rfl

theorem mark_outer {h0 : AHeap} (hlow0 : h0.low ≤ h0.next) {al : Option Addr} {nl cl : Nat} {l : List Rec} (hl : Recs h0 al nl l) (hnl : (nl : Int) ≤ 40) (hok : okL l) (hp : Prov l) {i0 : Int} (z0 : 0 ≤ i0) (z1 : i0 < l.length) {had : Int → Prop} {bm bh cm ch : Nat} (hbm : h0.next ≤ bm) (hbh : bh ≠ bm) {Q : Exit → SS → Prop}
    (h1 : ∀ h', Ext h0 h' → MB h' bm nl (Due l had i0) → MB h' bh nl had → Q (.exit 0) ⟨[(1, .slice (some ⟨bm, 0, none⟩) nl cm)], 0, [], h'⟩) :
    ∀ i : Int, 0 ≤ i → i ≤ nl → ∀ j : Int, j = i - 1 → ∀ h, Ext h0 h → MB h bm nl (DueA l had i0 j) → MB h bh nl had →
      head 39 2 0 ⟨[(0, .slice al nl cl), (1, .slice (some ⟨bm, 0, none⟩) nl cm), (2, .slice (some ⟨bh, 0, none⟩) nl ch), (7, .int .i64 j)], 0, [], h⟩ Q := by
  have hll := hl.len
  refine countDown (fun i hi0 ih hin j hj h e hm hh => ?_)
  refine hA.roundR Try.func39 r39_ok ?_; (try (conv => cbv)); repeat (refine brk_ok hA ?_; (try (conv => cbv)))
  refine br (0 ≤ j) (by rw [e_geq hA]) (fun c1 => ?_) (fun c1 => ?_) <;> (try (conv => cbv)) <;> repeat (refine brk_ok hA ?_; (try (conv => cbv)))
  · refine mark_inner hA hlow0 hl hnl hok hp z0 z1 hbm hbh c1 (by omega) (fun h' e' hm' hh' => ?_) 0 (by omega) (by omega) h e (hm.cong (fun u u0 u1 => by simp)) hh (.inl rfl)
    ((try (conv => cbv)); repeat (refine brk_ok hA ?_; (try (conv => cbv))))
    rw [sub64 hA (by omega) (by omega)]
    exact ih (by omega) (by omega) _ (by omega) h' e' hm' hh'
  · have : j = -1 := by omega
    rw [this] at hm
    exact h1 h e (hm.cong (fun u u0 u1 => due_end hp z0 z1 u)) hh

theorem marked_ok {h : AHeap} (hlow : h.low ≤ h.next) {al : Option Addr} {nl cl : Nat} {l : List Rec} {hb : AHeap} (hlowb : hb.low ≤ hb.next) (eb : Ext hb h) (hl : Recs hb al nl l) (hnl : (nl : Int) ≤ 40) (hok : okL l) (hp : Prov l) {i0 : Int} (z0 : 0 ≤ i0) (z1 : i0 < l.length) {had : Int → Prop} {bm bh cm ch : Nat} (hbm : hb.next ≤ bm) (hbh : bh ≠ bm) (hm : MB h bm nl (fun j => j = i0 ∧ ¬ had i0)) (hh : MB h bh nl had) {Q : Value → AHeap → Prop}
    (hQ : ∀ h', Ext hb h' → MB h' bm nl (Due l had i0) → MB h' bh nl had → Q (.slice (some ⟨bm, 0, none⟩) nl cm) h') : call 39 [.slice al nl cl, .slice (some ⟨bm, 0, none⟩) nl cm, .slice (some ⟨bh, 0, none⟩) nl ch] h Q := by
  have hll := hl.len
  refine hA.bodyR Try.func39 r39_ok (show prims _ _ _ = none from rfl) hlow ?_; (try (conv => cbv)); repeat (refine brk_ok hA ?_; (try (conv => cbv)))
  rw [e_ofNat hA, sub64 hA (by omega) (by omega)]
  obtain ⟨jj, hjj⟩ : ∃ v, v = (nl : Int) - 1 := ⟨_, rfl⟩
  rw [← hjj]
  refine mark_outer hA hlowb hl hnl hok hp z0 z1 hbm hbh (fun h' e' hm' hh' => ?_) nl (by omega) (by omega) jj hjj h eb (hm.cong (fun u u0 u1 => by rw [hjj, ← hll]; exact (due_start u).symm)) hh
  ((try (conv => cbv)); repeat (refine brk_ok hA ?_; (try (conv => cbv))))
  exact hQ h' e' hm' hh'

theorem names_loop {h0 : AHeap} (hlow0 : h0.low ≤ h0.next) {al : Option Addr} {nl cl : Nat} {l : List Rec} (hl : Recs h0 al nl l) (hnl : (nl : Int) ≤ 1000) {bm cm : Nat} {P : Int → Prop} (hM : MB h0 bm nl P) {Q : Exit → SS → Prop}
    (h1 : ∀ a n c h', Ext h0 h' → SOut h' h0.next a n c (outN l P l.length) → Q (.exit 0) ⟨[(5, .slice a n c)], 0, [], h'⟩) :
    ∀ i : Int, 0 ≤ i → i ≤ nl → ∀ h a n c, Ext h0 h → SOut h h0.next a n c (outN l P i.toNat) → head 40 3 0 ⟨[(0, .slice al nl cl), (1, .slice (some ⟨bm, 0, none⟩) nl cm), (5, .slice a n c), (6, .int .i64 i)], 0, [], h⟩ Q := by
  have hll := hl.len
  refine countUp (fun i hi0 hin ih h a n c e ho => ?_)
  have hon := ho.len
  have hol := outN_len l P i.toNat
  refine hA.roundR Try.func40 r40_ok ?_; (try (conv => cbv)); repeat (refine brk_ok hA ?_; (try (conv => cbv)))
  refine br (i < nl) (by rw [e_lss hA, e_ofNat hA]) (fun c1 => ?_) (fun c1 => ?_) <;> (try (conv => cbv)) <;> repeat (refine brk_ok hA ?_; (try (conv => cbv)))
  · obtain ⟨v, rv, hv⟩ := (hM.ext e).get hi0 c1
    refine ⟨bm, 0, rfl, in_ok hA hi0 c1, ?_⟩
    ((try (conv => cbv)); repeat (refine brk_ok hA ?_; (try (conv => cbv))))
    refine ⟨v, rd_ok hA rv, ?_⟩
    have ha : arith .add .i64 i 1 = i + 1 := add64 hA (by omega) (by omega)
    cases v with
    | true =>
      ((try (conv => cbv)); repeat (refine brk_ok hA ?_; (try (conv => cbv))))
      obtain ⟨b, o, x, hae, hbn, rel, _, r0, _⟩ := (hl.ext e).at hi0 c1
      obtain ⟨xnm, xhow, xfa, xfn, xfc, xarg, xda, xdn, xdc, xdg⟩ := x
      have hnm : xnm = (rat l i).name := rel.name
      simp only [] at r0
      refine ⟨b, o, hae, in_ok hA hi0 c1, ?_⟩
      ((try (conv => cbv)); repeat (refine brk_ok hA ?_; (try (conv => cbv))))
      refine ⟨xnm, rd_fld hA r0, ?_⟩
      ((try (conv => cbv)); repeat (refine brk_ok hA ?_; (try (conv => cbv))))
      rw [e_next hA, e_push hA]
      obtain ⟨a', c', h', q1, q2, q3⟩ := ho.one xnm (by omega) e rfl
      refine app_ok hA q1 ?_
      ((try (conv => cbv)); repeat (refine brk_ok hA ?_; (try (conv => cbv))))
      rw [ha]
      refine ih c1 h' a' (n + 1) c' q3 ?_
      rw [outN_yes hi0 (hv.1 rfl), ← hnm]
      exact q2
    | false =>
      ((try (conv => cbv)); repeat (refine brk_ok hA ?_; (try (conv => cbv))))
      rw [ha]
      refine ih c1 h a n c e ?_
      rw [outN_no hi0 (fun q => by have := hv.2 q; cases this)]
      exact ho
  · have : i.toNat = l.length := by omega
    rw [this] at ho
    exact h1 a n c h e ho
theorem names_ok {h : AHeap} (hlow : h.low ≤ h.next) {al : Option Addr} {nl cl : Nat} {l : List Rec} (hl : Recs h al nl l) (hnl : (nl : Int) ≤ 1000) {bm cm : Nat} {P : Int → Prop} (hM : MB h bm nl P) {Q : Value → AHeap → Prop}
    (hQ : ∀ a n c h', Ext h h' → SOut h' h.next a n c (outN l P l.length) → Q (.slice a n c) h') : call 40 [.slice al nl cl, .slice (some ⟨bm, 0, none⟩) nl cm] h Q := by
  refine hA.bodyR Try.func40 r40_ok (show prims _ _ _ = none from rfl) hlow ?_; (try (conv => cbv)); repeat (refine brk_ok hA ?_; (try (conv => cbv)))
  refine names_loop hA hlow hl hnl hM (fun a n c h' e' ho => ?_) 0 (by omega) (by omega) h none 0 0 (.refl _) (SOut.nil _ _)
  ((try (conv => cbv)); repeat (refine brk_ok hA ?_; (try (conv => cbv))))
  exact hQ a n c h' e' ho

theorem rneeds_ok {h : AHeap} (hlow : h.low ≤ h.next) {al : Option Addr} {nl cl : Nat} {l : List Rec} (hl : Recs h al nl l) (hcap : nl ≤ capLow cl) (hnb : (nl : Int) ≤ 1000000) (hok : l.length ≤ 40 → okL l) {name : Str} {Q : Value → AHeap → Prop}
    (hQ : ∀ a n c e r h', Ext h h' → Strs h' a n c r → NeedIs l name e r → (n : Int) ≤ 40 → Q (.tuple #[.slice a n c, .int .i64 e]) h') : call 27 [.slice al nl cl, .string name] h Q := by
  have hll := hl.len
  refine hA.bodyR Try.func27 r27_ok (show prims _ _ _ = none from rfl) hlow ?_; (try (conv => cbv)); repeat (refine brk_ok hA ?_; (try (conv => cbv)))
  refine rcheck_ok hA hlow hl hcap hok (fun e o h1 e1 ha => ⟨_, rfl, ?_⟩)
  ((try (conv => cbv)); repeat (refine brk_ok hA ?_; (try (conv => cbv))))
  refine br (e ≠ 0) (by rw [e_neq hA]) (fun c1 => ?_) (fun c1 => ?_) <;> (try (conv => cbv)) <;> repeat (refine brk_ok hA ?_; (try (conv => cbv)))
  · have ho : o = none := by
      cases o with
      | none => rfl
      | some ps => exact absurd (ha.zero.2 (by simp)) c1
    subst ho
    exact hQ _ _ _ _ _ h1 e1 (Strs.nil h1) (.inl ⟨ha, rfl⟩) (by omega)
  have he0 : e = 0 := by omega
  subst he0
  obtain ⟨ps, rfl⟩ : ∃ ps, o = some ps := by
    cases o with
    | none => exact absurd rfl (ha.zero.1 rfl)
    | some ps => exact ⟨ps, rfl⟩
  obtain ⟨pv, hform, h40⟩ := ha.prov
  refine idx_ok hA (e1.lowOK hlow) (hl.ext e1) (by omega) (fun i0 hi0 => ⟨_, rfl, ?_⟩)
  ((try (conv => cbv)); repeat (refine brk_ok hA ?_; (try (conv => cbv))))
  refine br (i0 < 0) (by rw [e_lss hA]) (fun c2 => ?_) (fun c2 => ?_) <;> (try (conv => cbv)) <;> repeat (refine brk_ok hA ?_; (try (conv => cbv)))
  · refine hQ _ _ _ _ _ h1 e1 (Strs.nil h1) (.inr (.inl ⟨ps, ha, ?_, rfl, rfl⟩)) (by omega)
    rcases idx_cases l name with ⟨q, _⟩ | ⟨q, _⟩ <;> omega
  have hi1 : i0 < l.length := by rcases idx_cases l name with ⟨q, _⟩ | ⟨_, q, _⟩ <;> omega
  refine ⟨mk_ok hA (by rw [e_ofNat hA]; omega) (Int.le_refl _) (by rw [e_ofNat hA]; omega), ?_⟩
  ((try (conv => cbv)); repeat (refine brk_ok hA ?_; (try (conv => cbv))))
  have hno : nat (ofNat nl) = nl := by rw [e_nat hA, e_ofNat hA, Int.toNat_natCast]
  have hz : zeros [Value.bool false] (ofNat nl) = copies [Value.bool false] nl := by rw [e_zeros hA, e_ofNat hA, Int.toNat_natCast]
  rw [hno, hz, e_next hA, e_push hA]
  have x2 := Ext.push h1 1 (copies [Value.bool false] nl)
  have m2 := MB.new h1 nl
  have n2 : (h1.push 1 (copies [Value.bool false] nl)).next = h1.next + 1 := rfl
  obtain ⟨bm, hbm⟩ : ∃ v, v = h1.next := ⟨_, rfl⟩
  generalize h1.push 1 (copies [Value.bool false] nl) = h2 at *
  rw [← hbm] at m2 n2 ⊢
  refine ⟨bm, 0, rfl, in_ok hA (by omega) (by omega), ?_⟩
  ((try (conv => cbv)); repeat (refine brk_ok hA ?_; (try (conv => cbv))))
  obtain ⟨h3, w1, w2, w3⟩ := m2.set (i := i0) (by omega) (by omega) true
  refine ⟨h3, wr_ok hA w1, ?_⟩
  ((try (conv => cbv)); repeat (refine brk_ok hA ?_; (try (conv => cbv))))
  refine ⟨mk_ok hA (by rw [e_ofNat hA]; omega) (Int.le_refl _) (by rw [e_ofNat hA]; omega), ?_⟩
  ((try (conv => cbv)); repeat (refine brk_ok hA ?_; (try (conv => cbv))))
  have n3 := w3.next
  have hen := e1.next
  have e3 : Ext h h3 := w3.ext (e1.trans x2) (by omega)
  rw [hno, hz, e_next hA, e_push hA]
  have x4 := Ext.push h3 1 (copies [Value.bool false] nl)
  have m4 := MB.new h3 nl
  have n4 : (h3.push 1 (copies [Value.bool false] nl)).next = h3.next + 1 := rfl
  obtain ⟨bh, hbh⟩ : ∃ v, v = h3.next := ⟨_, rfl⟩
  generalize h3.push 1 (copies [Value.bool false] nl) = h4 at *
  rw [← hbh] at m4 n4 ⊢
  have e4 := e3.trans x4
  refine marked_ok hA (e4.lowOK hlow) hlow e4 hl (by omega) (hok h40) pv (i0 := i0) (by omega) hi1 (had := noHad) (bm := bm) (bh := bh) (by omega) (by omega) ((w2.ext x4).cong (fun u u0 u1 => ?_)) (m4.cong (fun u u0 u1 => Iff.rfl)) (fun h5 e5 hm5 hh5 => ⟨_, _, _, rfl, ?_⟩)
  · constructor
    · rintro (⟨q, _⟩ | ⟨_, q⟩)
      · exact ⟨q, id⟩
      · exact q.elim
    · exact fun q => .inl ⟨q.1, rfl⟩
  ((try (conv => cbv)); repeat (refine brk_ok hA ?_; (try (conv => cbv))))
  obtain ⟨h6, v1, v2, v3⟩ := hm5.set (i := i0) (by omega) (by omega) false
  refine ⟨bm, 0, rfl, in_ok hA (by omega) (by omega), ?_⟩
  ((try (conv => cbv)); repeat (refine brk_ok hA ?_; (try (conv => cbv))))
  refine ⟨h6, wr_ok hA v1, ?_⟩
  ((try (conv => cbv)); repeat (refine brk_ok hA ?_; (try (conv => cbv))))
  have e6 : Ext h h6 := v3.ext e5 (by omega)
  have hm6 : MB h6 bm nl (fun j => Due l noHad i0 j ∧ j ≠ i0) := v2.cong (fun u u0 u1 => by
    constructor
    · rintro (⟨_, q⟩ | ⟨q1, q2⟩)
      · cases q
      · exact ⟨q2, q1⟩
    · exact fun q => .inr ⟨q.2, q.1⟩)
  refine names_ok hA (e6.lowOK hlow) (hl.ext e6) (by omega) hm6 (fun a n c h7 e7 ho => ⟨_, _, _, rfl, ?_⟩)
  ((try (conv => cbv)); repeat (refine brk_ok hA ?_; (try (conv => cbv))))
  have hol := outN_len l (fun j => Due l noHad i0 j ∧ j ≠ i0) l.length
  have hon := ho.len
  rw [hi0] at ho
  exact hQ _ _ _ _ _ h7 (e6.trans e7) ho.strs (.inr (.inr ⟨ps, ha, by omega, rfl, rfl⟩)) (by omega)

end Go.Proofs.Ytopppccddnplkaa
