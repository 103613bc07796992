/-
  Remake, of the reference.
-/
import Derived.Test.YtopppccddnplkaaORemake
namespace Go.Proofs.Ytopppccddnplkaa
open Go.Sim
open Classical
set_option linter.unusedVariables false
set_option maxRecDepth 100000

theorem MB.at {h : AHeap} {b n : Nat} (hb : b < h.next) : MB (h.putAt b 1 (copies [.bool false] n)) b n (fun _ => False) := by
  refine ⟨⟨List.replicate n false, by rw [copies_bool]; exact Own.putAt _ _ _ _, by simp, fun j j0 j1 => ?_⟩, hb⟩
  have hj : j.toNat < n := by omega
  simp [List.getD, hj]
theorem MB.past {h : AHeap} {b b' n : Nat} {P : Int → Prop} (p : MB h b n P) (hb : b ≠ b') (es : Nat) (cs : List Value) : MB (h.putAt b' es cs) b n P := by
  obtain ⟨bs, h1, h2, h3⟩ := p.ex
  exact ⟨⟨bs, h1.of_get (by simp only [AHeap.putAt]; rw [Tri.get_set_ne _ _ (by omega)]), h2, h3⟩, p.lt⟩
theorem _root_.Go.Sim.Ext.put {h h' : AHeap} (e : Ext h h') {b : Nat} (hb : h.next ≤ b) (es : Nat) (cs : List Value) : Ext h (h'.putAt b es cs) :=
  ⟨e.next, e.low, e.lowG, fun i hi => by simp only [AHeap.putAt]; rw [Tri.get_set_ne _ _ (by omega)]; exact e.get i hi⟩
theorem hadI_snoc {l : List Rec} {hs : List Str} {s : Str} (j : Int) : hadI l (hs ++ [s]) j ↔ hadI l hs j ∨ idxOf l s = j := by
  unfold hadI
  constructor
  · rintro ⟨t, m, q⟩
    rw [List.mem_append, List.mem_singleton] at m
    rcases m with m | rfl
    · exact .inl ⟨t, m, q⟩
    · exact .inr q
  · rintro (⟨t, m, q⟩ | q)
    · exact ⟨t, by simp [m], q⟩
    · exact ⟨s, by simp, q⟩

variable {call : FuncId → List Value → AHeap → (Value → AHeap → Prop) → Prop}
  {head : FuncId → Nat → Nat → SS → (Exit → SS → Prop) → Prop}
  {arith : BinOp → IntKind → Int → Int → Int}
  {cmp : BinOp → Int → Int → Bool}
  {scmp : BinOp → ByteArray → ByteArray → Bool}
  {bnot : Bool → Bool}
  {bsame : Bool → Bool → Bool}
  {conv : IntKind → Int → Int}
  {neg : IntKind → Int → Int}
  {imax : Int → Int → Int}
  {imin : Int → Int → Int}
  {ofNat : Nat → Int}
  {slen : ByteArray → Int}
  {place : Nat → Int → Nat → Nat}
  {inR : Int → Nat → Prop}
  {nz : Int → Prop}
  {geZ : Int → Prop}
  {rd : AHeap → Nat → Nat → Nat → List Value → Prop}
  {wr : AHeap → Nat → Nat → List Value → AHeap → Prop}
  {push : AHeap → Nat → List Value → AHeap}
  {next : AHeap → Nat}
  {mkOK : Int → Int → Prop}
  {nat : Int → Nat}
  {zeros : List Value → Int → List Value}
  {sadd : ByteArray → ByteArray → (ByteArray → Prop) → Prop}
  {eqAgg : TypeId → Array Value → Array Value → (Bool → Prop) → Prop}
  {cut : Nat → Int → Prop}
  {slc : TypeId → Value → Option Value → Option Value → Option Value → (Option Addr → Nat → Nat → Prop) → Prop}
  {sslc : TypeId → ByteArray → Option Value → Option Value → (ByteArray → Prop) → Prop}
  {strAt : ByteArray → Int → (Int → Prop) → Prop}
  {part : TypeId → Array Value → Nat → Value → Prop}
  {app : List TypeId → List Value → AHeap → (Option Addr → Nat → Nat → AHeap → Prop) → Prop}
  {cpy : List TypeId → List Value → AHeap → (Int → AHeap → Prop) → Prop}
  {putAt : AHeap → Nat → Nat → List Value → AHeap}
  {fresh : AHeap → AHeap}
  {lowered : AHeap → AHeap → AHeap}
  {bump : AHeap → Nat → AHeap}
  {wrote : AHeap → AHeap → Bool}
  {addN : Nat → Nat → Nat}
  {lt : Nat → Nat → Prop}
  {ne : Nat → Nat → Prop}
  {fpAll : Bool → Bool → Bool → Nat → Nat → Prop}
  {brk : (Unit → Prop) → Prop}
  {yn : Nat → Nat}
  {rng : FuncId → Nat → SS → (Exit → SS → Prop) → Prop}
  {mget : TypeId → Value → Value → AHeap → Value → Bool → Prop}
  {mput : TypeId → Value → Value → Value → AHeap → AHeap → Prop}
  {mnew : AHeap → AHeap}
  {bytes : TypeId → TypeId → Option Addr → Nat → AHeap → ByteArray → Prop}
  {clr : List TypeId → List Value → AHeap → AHeap → Prop}
  (hA : AOK progU hint prims ⟨call, head, arith, cmp, scmp, bnot, bsame, conv, neg, imax, imin, ofNat, slen, place, inR, nz, geZ, rd, wr, push, next, mkOK, nat, zeros, sadd, eqAgg, cut, slc, sslc, strAt, part, app, cpy, putAt, fresh, lowered, bump, wrote, addN, lt, ne, fpAll, brk, yn, rng, mget, mput, mnew, bytes, clr⟩)
include hA

theorem had_loop {h0 : AHeap} (hlow0 : h0.low ≤ h0.next) {al : Option Addr} {nl cl : Nat} {l : List Rec} (hl : Recs h0 al nl l) (hnl : (nl : Int) ≤ 40) {ha : Option Addr} {hn hc : Nat} {hv : List Str} (hh : Strs h0 ha hn hc hv) (hhn : (hn : Int) ≤ 1000000) {bm bh cm ch : Nat} (hbh : h0.next ≤ bh) (hne : bm ≠ bh) {P : Int → Prop} {i0 : Int} {Q : Exit → SS → Prop}
    (h1 : ∀ h', Ext h0 h' → MB h' bh nl (hadI l hv) → MB h' bm nl P → (∀ s ∈ hv, 0 ≤ idxOf l s) → Q (.exit 0) ⟨[(0, .slice al nl cl), (9, .int .i64 i0), (10, .slice (some ⟨bh, 0, none⟩) nl ch), (11, .slice (some ⟨bm, 0, none⟩) nl cm)], 8, [], h'⟩)
    (h2 : ∀ e kn K h', Ext h0 h' → (∃ s ∈ hv, idxOf l s = -1) → Q .ret ⟨(7, .int .i64 6) :: (6, .slice none 0 0) :: e, kn, K, h'⟩) :
    ∀ k : Int, 0 ≤ k → k ≤ hn → ∀ h, Ext h0 h → MB h bh nl (hadI l (hv.take k.toNat)) → MB h bm nl P → (∀ j : Int, 0 ≤ j → j < k → 0 ≤ idxOf l (sat' hv j)) →
      head 29 9 8 ⟨[(0, .slice al nl cl), (1, .slice ha hn hc), (9, .int .i64 i0), (10, .slice (some ⟨bh, 0, none⟩) nl ch), (11, .slice (some ⟨bm, 0, none⟩) nl cm), (12, .int .i64 k)], 8, [], h⟩ Q := by
  have hhl := hh.len
  have hll := hl.len
  have mem : ∀ k : Int, 0 ≤ k → k < hn → sat' hv k ∈ hv := fun k k0 k1 => by
    unfold sat'
    rw [List.getD, List.getElem?_eq_getElem (by omega)]
    exact List.getElem_mem _
  refine countUp (fun k hk0 hkn ih h e hb hm hall => ?_)
  refine hA.roundR Try.func29 r29_ok ?_; (try (conv => cbv)); repeat (refine brk_ok hA ?_; (try (conv => cbv)))
  refine br (k < hn) (by rw [e_lss hA, e_ofNat hA]) (fun c1 => ?_) (fun c1 => ?_) <;> (try (conv => cbv)) <;> repeat (refine brk_ok hA ?_; (try (conv => cbv)))
  · obtain ⟨b, o, s, hae, hbn, hs, hrd⟩ := (hh.ext e).at hk0 c1
    refine ⟨b, o, hae, in_ok hA hk0 c1, ?_⟩
    ((try (conv => cbv)); repeat (refine brk_ok hA ?_; (try (conv => cbv))))
    refine ⟨s, rd_ok hA hrd, ?_⟩
    ((try (conv => cbv)); repeat (refine brk_ok hA ?_; (try (conv => cbv))))
    refine idx_ok hA (e.lowOK hlow0) (hl.ext e) (by omega) (fun kk hkk => ⟨_, rfl, ?_⟩)
    ((try (conv => cbv)); repeat (refine brk_ok hA ?_; (try (conv => cbv))))
    have hic := idx_cases l s
    refine br (kk < 0) (by rw [e_lss hA]) (fun c2 => ?_) (fun c2 => ?_) <;> (try (conv => cbv)) <;> repeat (refine brk_ok hA ?_; (try (conv => cbv)))
    · refine h2 _ _ _ h e ⟨s, by rw [hs]; exact mem k hk0 c1, ?_⟩
      rcases hic with ⟨q, _⟩ | ⟨q, _⟩ <;> omega
    have hk1 : kk < nl := by rcases hic with ⟨q, _⟩ | ⟨_, q, _⟩ <;> omega
    obtain ⟨h', w1, w2, w3⟩ := hb.set (i := kk) (by omega) hk1 true
    refine ⟨bh, 0, rfl, in_ok hA (by omega) (by omega), ?_⟩
    ((try (conv => cbv)); repeat (refine brk_ok hA ?_; (try (conv => cbv))))
    refine ⟨h', wr_ok hA w1, ?_⟩
    ((try (conv => cbv)); repeat (refine brk_ok hA ?_; (try (conv => cbv))))
    rw [add64 hA (by omega) (by omega)]
    refine ih c1 h' (w3.ext e hbh) (w2.cong (fun u u0 u1 => ?_)) (hm.wrote w3 hne) (fun j j0 j1 => ?_)
    · have htk : hv.take (k + 1).toNat = hv.take k.toNat ++ [sat' hv k] := by
        rw [toNat_succ hk0, List.take_add_one, getD_some hv k.toNat ByteArray.empty (by omega)]
        rfl
      rw [htk, ← hs, hadI_snoc, ← hkk]
      constructor
      · rintro (⟨q, _⟩ | ⟨_, q⟩)
        · exact .inr q.symm
        · exact .inl q
      · rintro (q | q)
        · by_cases eu : u = kk
          · exact .inl ⟨eu, rfl⟩
          · exact .inr ⟨eu, q⟩
        · exact .inl ⟨q.symm, rfl⟩
    · by_cases ej : j = k
      · rw [ej, ← hs]; omega
      · exact hall j j0 (by omega)
  · rw [List.take_of_length_le (by omega)] at hb
    refine h1 h e hb hm (fun s hs => ?_)
    obtain ⟨j, hj⟩ := List.getElem?_of_mem hs
    have hjl : j < hv.length := (List.getElem?_eq_some_iff.1 hj).1
    have := hall j (by omega) (by omega)
    unfold sat' at this
    rw [Int.toNat_natCast, List.getD, hj] at this
    exact this

theorem rlost_loop {h : AHeap} (hlow0 : h.low ≤ h.next) {al : Option Addr} {nl cl : Nat} {l : List Rec} (hl : Recs h al nl l) (hnl : (nl : Int) ≤ 40) {bm cm : Nat} {D : Int → Prop} (hm : MB h bm nl D) {Q : Exit → SS → Prop}
    (h1 : (¬ ∃ j : Int, 0 ≤ j ∧ j < l.length ∧ D j ∧ (rat l j).how = 1) → Q (.exit 2) ⟨[(0, .slice al nl cl), (11, .slice (some ⟨bm, 0, none⟩) nl cm)], 8, [], h⟩)
    (h2 : ∀ e kn K, (∃ j : Int, 0 ≤ j ∧ j < l.length ∧ D j ∧ (rat l j).how = 1) → Q .ret ⟨(7, .int .i64 32) :: (6, .slice none 0 0) :: e, kn, K, h⟩) :
    ∀ k : Int, 0 ≤ k → k ≤ nl → (∀ j : Int, 0 ≤ j → j < k → ¬ (D j ∧ (rat l j).how = 1)) →
      head 29 18 8 ⟨[(0, .slice al nl cl), (11, .slice (some ⟨bm, 0, none⟩) nl cm), (14, .int .i64 k)], 8, [], h⟩ Q := by
  have hll := hl.len
  refine countUp (fun k hk0 hkn ih hall => ?_)
  refine hA.roundR Try.func29 r29_ok ?_; (try (conv => cbv)); repeat (refine brk_ok hA ?_; (try (conv => cbv)))
  refine br (k < nl) (by rw [e_lss hA, e_ofNat hA]) (fun c1 => ?_) (fun c1 => ?_) <;> (try (conv => cbv)) <;> repeat (refine brk_ok hA ?_; (try (conv => cbv)))
  · refine ⟨bm, 0, rfl, in_ok hA hk0 c1, ?_⟩
    ((try (conv => cbv)); repeat (refine brk_ok hA ?_; (try (conv => cbv))))
    obtain ⟨v, hrd, hv⟩ := hm.get hk0 c1
    refine ⟨v, rd_ok hA hrd, ?_⟩
    have next : ¬ (D k ∧ (rat l k).how = 1) → (∀ j : Int, 0 ≤ j → j < k + 1 → ¬ (D j ∧ (rat l j).how = 1)) := fun q j j0 j1 => by
      by_cases ej : j = k
      · rw [ej]; exact q
      · exact hall j j0 (by omega)
    cases v with
    | false =>
      ((try (conv => cbv)); repeat (refine brk_ok hA ?_; (try (conv => cbv))))
      rw [add64 hA (by omega) (by omega)]
      exact ih c1 (next (fun q => by have := hv.2 q.1; cases this))
    | true =>
      obtain ⟨b, o, x, hae, hbn, rel, _, r0, r1, r2, _⟩ := hl.at2 (.refl h) hk0 c1
      obtain ⟨xnm, xhow, xfa, xfn, xfc, xarg, xda, xdn, xdc, xdg⟩ := x
      have hhw : xhow = (rat l k).how := rel.how
      simp only [] at r1
      ((try (conv => cbv)); repeat (refine brk_ok hA ?_; (try (conv => cbv))))
      refine ⟨b, o, hae, in_ok hA hk0 (by omega), ?_⟩
      ((try (conv => cbv)); repeat (refine brk_ok hA ?_; (try (conv => cbv))))
      refine ⟨xhow, rd_fld hA r1, ?_⟩
      ((try (conv => cbv)); repeat (refine brk_ok hA ?_; (try (conv => cbv))))
      refine br (xhow = 1) (by rw [e_eql hA]) (fun c2 => ?_) (fun c2 => ?_) <;> (try (conv => cbv)) <;> repeat (refine brk_ok hA ?_; (try (conv => cbv)))
      · exact h2 _ _ _ ⟨k, hk0, by omega, hv.1 rfl, by rw [← hhw]; exact c2⟩
      · rw [add64 hA (by omega) (by omega)]
        exact ih c1 (next (fun q => c2 (by rw [hhw]; exact q.2)))
  · refine h1 ?_
    rintro ⟨j, j0, j1, jd, jh⟩
    exact hall j j0 (by omega) ⟨jd, jh⟩


theorem rremake_ok {h : AHeap} (hlow : h.low ≤ h.next) {al : Option Addr} {nl cl : Nat} {l : List Rec} (hl : Recs h al nl l) (hcap : nl ≤ capLow cl) (hnb : (nl : Int) ≤ 1000000) (hok : l.length ≤ 40 → okL l) {ha : Option Addr} {hn hc : Nat} {hv : List Str} (hh : Strs h ha hn hc hv) (hhn : (hn : Int) ≤ 1000000) {name : Str} {Q : Value → AHeap → Prop}
    (hQ : ∀ a n c e r h', Ext h h' → Strs h' a n c r → RemIs l hv name e r → (n : Int) ≤ 40 → Q (.tuple #[.slice a n c, .int .i64 e]) h') : call 29 [.slice al nl cl, .slice ha hn hc, .string name] h Q := by
  have hll := hl.len
  refine hA.bodyR Try.func29 r29_ok (show prims _ _ _ = none from rfl) hlow ?_; (try (conv => cbv)); repeat (refine brk_ok hA ?_; (try (conv => cbv)))
  refine rcheck_ok hA hlow hl hcap hok (fun e o h1 e1 hall => ⟨_, rfl, ?_⟩)
  ((try (conv => cbv)); repeat (refine brk_ok hA ?_; (try (conv => cbv))))
  refine br (e ≠ 0) (by rw [e_neq hA]) (fun c1 => ?_) (fun c1 => ?_) <;> (try (conv => cbv)) <;> repeat (refine brk_ok hA ?_; (try (conv => cbv)))
  · have ho : o = none := by
      cases o with
      | none => rfl
      | some ps => exact absurd (hall.zero.2 (by simp)) c1
    subst ho
    exact hQ _ _ _ _ _ h1 e1 (Strs.nil h1) (.inl ⟨hall, rfl⟩) (by omega)
  have he0 : e = 0 := by omega
  subst he0
  obtain ⟨ps, rfl⟩ : ∃ ps, o = some ps := by
    cases o with
    | none => exact absurd rfl (hall.zero.1 rfl)
    | some ps => exact ⟨ps, rfl⟩
  obtain ⟨pv, hform, h40⟩ := hall.prov
  refine idx_ok hA (e1.lowOK hlow) (hl.ext e1) (by omega) (fun i0 hi0 => ⟨_, rfl, ?_⟩)
  ((try (conv => cbv)); repeat (refine brk_ok hA ?_; (try (conv => cbv))))
  refine br (i0 < 0) (by rw [e_lss hA]) (fun c2 => ?_) (fun c2 => ?_) <;> (try (conv => cbv)) <;> repeat (refine brk_ok hA ?_; (try (conv => cbv)))
  · refine hQ _ _ _ _ _ h1 e1 (Strs.nil h1) (.inr (.inl ⟨ps, hall, .inl ?_, rfl, rfl⟩)) (by omega)
    rcases idx_cases l name with ⟨q, _⟩ | ⟨q, _⟩ <;> omega
  have hi1 : i0 < l.length := by rcases idx_cases l name with ⟨q, _⟩ | ⟨_, q, _⟩ <;> omega
  refine ⟨mk_ok hA (by rw [e_ofNat hA]; omega) (Int.le_refl _) (by rw [e_ofNat hA]; omega), ?_⟩
  ((try (conv => cbv)); repeat (refine brk_ok hA ?_; (try (conv => cbv))))
  refine ⟨mk_ok hA (by rw [e_ofNat hA]; omega) (Int.le_refl _) (by rw [e_ofNat hA]; omega), ?_⟩
  ((try (conv => cbv)); repeat (refine brk_ok hA ?_; (try (conv => cbv))))
  have hno : nat (ofNat nl) = nl := by rw [e_nat hA, e_ofNat hA, Int.toNat_natCast]
  have hz : zeros [Value.bool false] (ofNat nl) = copies [Value.bool false] nl := by rw [e_zeros hA, e_ofNat hA, Int.toNat_natCast]
  simp only [hno, hz, e_next hA, e_addN hA, e_putAt hA, e_bump hA]
  obtain ⟨bh, hbh⟩ : ∃ v, v = h1.next + 2 := ⟨_, rfl⟩
  obtain ⟨bm, hbm⟩ : ∃ v, v = h1.next + 5 := ⟨_, rfl⟩
  rw [← hbh, ← hbm]
  have x9 : Ext h1 (h1.bump 8) := Ext.bump _ _
  have n9 : (h1.bump 8).next = h1.next + 8 := rfl
  generalize h1.bump 8 = h9 at *
  have mh : MB ((h9.putAt bh 1 (copies [.bool false] nl)).putAt bm 1 (copies [.bool false] nl)) bh nl (fun _ => False) := (MB.at (by omega)).past (by omega) _ _
  have mm : MB ((h9.putAt bh 1 (copies [.bool false] nl)).putAt bm 1 (copies [.bool false] nl)) bm nl (fun _ => False) := MB.at (by show bm < h9.next; omega)
  have e2 : Ext h ((h9.putAt bh 1 (copies [.bool false] nl)).putAt bm 1 (copies [.bool false] nl)) := ((e1.trans x9).put (by have := e1.next; omega) _ _).put (by have := e1.next; omega) _ _
  generalize (h9.putAt bh 1 (copies [.bool false] nl)).putAt bm 1 (copies [.bool false] nl) = h2 at *
  refine ⟨ne_ok hA (by omega), ?_⟩
  ((try (conv => cbv)); repeat (refine brk_ok hA ?_; (try (conv => cbv))))
  have hen := e1.next
  refine had_loop hA hlow hl (by omega) hh hhn (bm := bm) (bh := bh) (by omega) (by omega) (fun h3 e3 mh3 mm3 hknown => ?_) (fun e kn K h3 e3 hlack => ?_) 0 (by omega) (by omega) h2 e2 (mh.cong (fun j j0 j1 => ⟨fun q => q.elim, fun q => by obtain ⟨_, m, _⟩ := q; simp at m⟩)) mm (fun j j0 j1 => by omega)
  rotate_left
  · ((try (conv => cbv)); repeat (refine brk_ok hA ?_; (try (conv => cbv))))
    exact hQ _ _ _ _ _ h3 e3 (Strs.nil h3) (.inr (.inl ⟨ps, hall, .inr hlack, rfl, rfl⟩)) (by omega)
  ((try (conv => cbv)); repeat (refine brk_ok hA ?_; (try (conv => cbv))))
  refine ⟨bh, 0, rfl, in_ok hA (by omega) (by omega), ?_⟩
  ((try (conv => cbv)); repeat (refine brk_ok hA ?_; (try (conv => cbv))))
  obtain ⟨v, hrd, hv'⟩ := mh3.get (i := i0) (by omega) (by omega)
  refine ⟨v, rd_ok hA hrd, ?_⟩
  ((try (conv => cbv)); repeat (refine brk_ok hA ?_; (try (conv => cbv))))
  have hbn' : bnot v = !v := e_bnot hA v
  rw [hbn']
  obtain ⟨nb, hnb⟩ : ∃ w, w = !v := ⟨_, rfl⟩
  rw [← hnb]
  refine ⟨bm, 0, rfl, in_ok hA (by omega) (by omega), ?_⟩
  ((try (conv => cbv)); repeat (refine brk_ok hA ?_; (try (conv => cbv))))
  obtain ⟨h4, w1, w2, w3⟩ := mm3.set (i := i0) (by omega) (by omega) nb
  refine ⟨h4, wr_ok hA w1, ?_⟩
  ((try (conv => cbv)); repeat (refine brk_ok hA ?_; (try (conv => cbv))))
  have e4 : Ext h h4 := w3.ext e3 (by omega)
  refine marked_ok hA (e4.lowOK hlow) hlow e4 hl (by omega) (hok h40) pv (i0 := i0) (by omega) hi1 (had := hadI l hv) (bm := bm) (bh := bh) (by omega) (by omega) (w2.cong (fun u u0 u1 => ?_)) (mh3.wrote w3 (by omega)) (fun h5 e5 hm5 hh5 => ⟨_, _, _, rfl, ?_⟩)
  · have hnin : nb = true ↔ ¬ hadI l hv i0 := by rw [hnb, ← hv']; cases v <;> simp
    rw [← hnin]
    constructor
    · rintro (q | ⟨_, q⟩)
      · exact q
      · exact q.elim
    · exact fun q => .inl q
  ((try (conv => cbv)); repeat (refine brk_ok hA ?_; (try (conv => cbv))))
  refine rlost_loop hA (e5.lowOK hlow) (hl.ext e5) (by omega) hm5 (fun hno => ?_) (fun e kn K hlost => ?_) 0 (by omega) (by omega) (fun j j0 j1 => by omega)
  · ((try (conv => cbv)); repeat (refine brk_ok hA ?_; (try (conv => cbv))))
    refine names_ok hA (e5.lowOK hlow) (hl.ext e5) (by omega) hm5 (fun a n c h7 e7 ho => ⟨_, _, _, rfl, ?_⟩)
    ((try (conv => cbv)); repeat (refine brk_ok hA ?_; (try (conv => cbv))))
    have hol := outN_len l (Due l (hadI l hv) i0) l.length
    have hon := ho.len
    rw [hi0] at ho hno
    exact hQ _ _ _ _ _ h7 (e5.trans e7) ho.strs (.inr (.inr ⟨ps, hall, by omega, hknown, .inr ⟨hno, rfl, rfl⟩⟩)) (by omega)
  · ((try (conv => cbv)); repeat (refine brk_ok hA ?_; (try (conv => cbv))))
    rw [hi0] at hlost
    exact hQ _ _ _ _ _ h5 e5 (Strs.nil h5) (.inr (.inr ⟨ps, hall, by omega, hknown, .inl ⟨hlost, rfl, rfl⟩⟩)) (by omega)

end Go.Proofs.Ytopppccddnplkaa
